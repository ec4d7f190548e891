/- Laws that the proof stands on. -/
import Derived.Test.YtaleehohmpohoaaZVMeet
import Derived.Test.YtaleehohmpohoaaZg18
import Derived.Test.YtaleehohmpohoaaZVDsnP
import Derived.Test.YtaleehohmpohoaaZg11
set_option linter.all false
namespace Go.Proofs.Ytaleehohmpohoaa
open Go.RowKit Go.V
def gP (ps:List Piece)(k:Int):Piece:=ps.getD k.toNat p0
/-! What a run's pieces fit on. -/
def fitI (d:Design)(out:List Int)(i:Nat):Prop :=
  (gP d.Pieces (out.getD i 0)).South=(if i<d.Bottom.length then d.Bottom.getD i 0 else (gP d.Pieces (out.getD (i-d.Bottom.length) 0)).North) ∧
  (gP d.Pieces (out.getD i 0)).West=(if i % d.Bottom.length=0 then d.Left.getD (i / d.Bottom.length) 0 else (gP d.Pieces (out.getD (i-1) 0)).East)
structure InvR (d:Design) (st:RunS) (n:Nat):Prop where
  len:st.out.length=n
  bl:st.bel.length=d.Bottom.length
  bel:∀ m,n≤m→m<n+d.Bottom.length→st.bel.getD (m % d.Bottom.length) 0=(if m<d.Bottom.length then d.Bottom.getD m 0 else (gP d.Pieces (st.out.getD (m-d.Bottom.length) 0)).North)
  fit:∀ i,i<n→fitI d st.out i
theorem getD_app {l:List Int}{x:Int}{i:Nat}(h:i<l.length):(l++[x]).getD i 0=l.getD i 0:=by rw [List.getD_eq_getElem?_getD,List.getD_eq_getElem?_getD,List.getElem?_append_left h]
theorem getD_new {l:List Int}{x:Int}:(l++[x]).getD l.length 0=x:=by rw [List.getD_eq_getElem?_getD,List.getElem?_append_right (Nat.le_refl _)];simp
theorem getD_set_ne {l:List Int}{x:Int}{i j:Nat}(h:i≠j):(l.set i x).getD j 0=l.getD j 0:=by rw [List.getD_eq_getElem?_getD,List.getD_eq_getElem?_getD,List.getElem?_set_ne h]
theorem getD_set_self {l:List Int}{x:Int}{i:Nat}(h:i<l.length):(l.set i x).getD i 0=x:=by rw [List.getD_eq_getElem?_getD,List.getElem?_set_self h];rfl
theorem fitI_app {d:Design}{out:List Int}{x:Int}{i:Nat}(h:i<out.length)(hf:fitI d out i):fitI d (out++[x]) i:=by unfold fitI at hf ⊢;rw [getD_app h,getD_app (i:=i-d.Bottom.length) (by omega),getD_app (i:=i-1) (by omega)];exact hf
theorem inv_step {d:Design} {st:RunS} {n:Nat} (hW:0<d.Bottom.length) (h:InvR d st n) (hw:st.west=(if n % d.Bottom.length=0 then d.Left.getD (n / d.Bottom.length) 0 else (gP d.Pieces (st.out.getD (n-1) 0)).East)) (hok:runOK d.Pieces st (n % d.Bottom.length)=true) :
    InvR d (runC d.Pieces st (n % d.Bottom.length)) (n+1)∧(runC d.Pieces st (n % d.Bottom.length)).west=(gP d.Pieces ((runC d.Pieces st (n % d.Bottom.length)).out.getD n 0)).East:=by
  have hb:=h.bel n (Nat.le_refl _) (by omega);have hmod:n % d.Bottom.length<d.Bottom.length:=Nat.mod_lt _ hW;unfold runOK at hok;have hok:=of_decide_eq_true hok;rcases fitP_cases d.Pieces (st.bel.getD (n % d.Bottom.length) 0) st.west with ⟨e,_⟩ | ⟨k,hk,e,hkk⟩
  · omega
  have hc:runC d.Pieces st (n % d.Bottom.length)=⟨st.out++[(k:Int)],st.bel.set (n % d.Bottom.length) d.Pieces[k].North,d.Pieces[k].East⟩:=(by unfold runC;rw [e,Int.toNat_natCast,List.getElem?_eq_getElem hk]);have hg:gP d.Pieces (k:Int)=d.Pieces[k]:=(by unfold gP;rw [Int.toNat_natCast,List.getD_eq_getElem?_getD,List.getElem?_eq_getElem hk];rfl);have hkk':d.Pieces[k].South=st.bel.getD (n % d.Bottom.length) 0∧d.Pieces[k].West=st.west:=(by unfold kkP at hkk;exact ⟨congrArg Prod.fst hkk,congrArg Prod.snd hkk⟩);have hnew:(st.out++[(k:Int)]).getD n 0=(k:Int):=(by rw [← h.len];exact getD_new);rw [hc];refine ⟨⟨by simp [h.len],by simp [h.bl],fun m hm1 hm2=>?_,fun i hi=>?_⟩,?_⟩
  · show (st.bel.set (n % d.Bottom.length) d.Pieces[k].North).getD (m % d.Bottom.length) 0=_;by_cases hmn:m=n+d.Bottom.length
    · subst hmn;rw [Nat.add_mod_right,getD_set_self (by rw [h.bl];exact hmod),if_neg (by omega),Nat.add_sub_cancel];show _=(gP d.Pieces ((st.out++[(k:Int)]).getD n 0)).North;rw [hnew,hg]
    · have hne:n % d.Bottom.length≠m % d.Bottom.length:=by
        intro e2;have h1:m=n+(m-n):=by omega
        have h2:(m-n) % d.Bottom.length=0:=(by have:=Nat.sub_mod_eq_zero_of_mod_eq e2.symm;exact this);have h3:m-n<d.Bottom.length:=(by omega);rw [Nat.mod_eq_of_lt h3] at h2;omega
      rw [getD_set_ne hne,h.bel m (by omega) (by omega)];by_cases hmw:m<d.Bottom.length
      · rw [if_pos hmw,if_pos hmw]
      · rw [if_neg hmw,if_neg hmw];show _=(gP d.Pieces ((st.out++[(k:Int)]).getD (m-d.Bottom.length) 0)).North;rw [getD_app (by rw [h.len];omega)]
  · by_cases hin:i<n
    · exact fitI_app (by rw [h.len];exact hin) (h.fit i hin)
    · obtain rfl:i=n:=(by omega);unfold fitI;show (gP d.Pieces ((st.out++[(k:Int)]).getD i 0)).South=_∧(gP d.Pieces ((st.out++[(k:Int)]).getD i 0)).West=(if i % d.Bottom.length=0 then d.Left.getD (i / d.Bottom.length) 0 else (gP d.Pieces ((st.out++[(k:Int)]).getD (i-1) 0)).East)
      rw [hnew,hg,hkk'.1,hkk'.2,hb,hw];refine ⟨?_,?_⟩
      · by_cases hiw:i<d.Bottom.length
        · rw [if_pos hiw,if_pos hiw]
        · rw [if_neg hiw,if_neg hiw];show _=(gP d.Pieces ((st.out++[(k:Int)]).getD (i-d.Bottom.length) 0)).North;rw [getD_app (by rw [h.len];omega)]
      · by_cases hiz:i % d.Bottom.length=0
        · rw [if_pos hiz,if_pos hiz]
        · rw [if_neg hiz,if_neg hiz];have:0<i:=Nat.pos_of_ne_zero (fun e=>hiz (by rw [e];simp));rw [getD_app (by rw [h.len];omega)]
  · show d.Pieces[k].East=(gP d.Pieces ((st.out++[(k:Int)]).getD n 0)).East;rw [hnew,hg]
theorem inv_row {d:Design}{y:Nat}(hW:0<d.Bottom.length)(hy:y<d.Left.length)(h:InvR d (runYi d y) (y*d.Bottom.length))(hr:rowOK d.Pieces (runRow d y) d.Bottom.length=true) :
    ∀ x,x≤d.Bottom.length→InvR d (runX d.Pieces (runRow d y) x) (y*d.Bottom.length+x)∧(x<d.Bottom.length→(runX d.Pieces (runRow d y) x).west=(if (y*d.Bottom.length+x) % d.Bottom.length=0 then d.Left.getD ((y*d.Bottom.length+x) / d.Bottom.length) 0 else (gP d.Pieces ((runX d.Pieces (runRow d y) x).out.getD (y*d.Bottom.length+x-1) 0)).East))
  | 0,_=>by refine ⟨⟨h.len,h.bl,h.bel,h.fit⟩,fun _=>?_⟩;rw [if_pos (by rw [Nat.add_zero,Nat.mul_mod_left]),Nat.add_zero,Nat.mul_div_cancel _ hW];rfl
  | x+1,hx=>by obtain ⟨hi,hw⟩:=inv_row hW hy h hr x (by omega);have hxm:(y*d.Bottom.length+x) % d.Bottom.length=x:=(by rw [Nat.mul_comm,Nat.mul_add_mod,Nat.mod_eq_of_lt (by omega)]);have hok:runOK d.Pieces (runX d.Pieces (runRow d y) x) x=true:=(by unfold rowOK at hr;exact List.all_eq_true.1 hr x (List.mem_range.2 (by omega)));have:=inv_step hW hi (hw (by omega)) (by rw [hxm];exact hok);rw [hxm,← runX_next] at this;refine ⟨this.1,fun hx2=>?_⟩;rw [this.2,if_neg (by rw [Nat.mul_comm,Nat.mul_add_mod,Nat.mod_eq_of_lt hx2];omega)];rfl
theorem inv_rows {d:Design}(hW:0<d.Bottom.length)(hr:runAll d=true):∀ y,y≤d.Left.length→InvR d (runYi d y) (y*d.Bottom.length)
  | 0,_=>⟨by simp [runYi,runY,run0],rfl,fun m h1 h2=>by
      rw [Nat.zero_mul] at h2;rw [if_pos (by omega),Nat.mod_eq_of_lt (by omega)];rfl,fun i hi=>by rw [Nat.zero_mul] at hi;omega⟩
  | y+1,hy=>by have hrow:rowOK d.Pieces (runRow d y) d.Bottom.length=true:=(by unfold runAll at hr;exact List.all_eq_true.1 hr y (List.mem_range.2 (by omega)));have:=(inv_row hW (by omega) (inv_rows hW hr y (by omega)) hrow d.Bottom.length (Nat.le_refl _)).1;rw [runYi_next (by omega),Nat.add_mul,Nat.one_mul];exact this
theorem run_fit {d:Design}(hW:0<d.Bottom.length)(hr:runAll d=true):(runOut d).length=d.Left.length*d.Bottom.length∧∀ i,i<(runOut d).length→fitI d (runOut d) i:=by have:=inv_rows hW hr d.Left.length (Nat.le_refl _);exact ⟨this.len,fun i hi=>this.fit i (by rw [← this.len];exact hi)⟩
/-! The numbers met. -/
structure CanS where
  R:List Int
  C:List Int
  S:List Int
  out:Design
def can0:CanS:=⟨[],[],[],⟨[],[],[]⟩⟩
def canL (d:Design)(i:Nat)(st:CanS):CanS:=if i % d.Bottom.length=0 then { st with C:=metN st.C (d.Left.getD (i / d.Bottom.length) 0),out:={ st.out with Left:=st.out.Left++[((numN (metN st.C (d.Left.getD (i / d.Bottom.length) 0)) (d.Left.getD (i / d.Bottom.length) 0):Nat):Int)] } } else st
def canB (d:Design)(i:Nat)(st:CanS):CanS:=if i<d.Bottom.length then { st with R:=metN st.R (d.Bottom.getD i 0),out:={ st.out with Bottom:=st.out.Bottom++[((numN (metN st.R (d.Bottom.getD i 0)) (d.Bottom.getD i 0):Nat):Int)] } } else st
def canQ (R C:List Int)(p:Piece):Piece:=⟨p.Color,(numN (metN R p.North) p.North:Nat),(numN (metN C p.East) p.East:Nat),(numN R p.South:Nat),(numN C p.West:Nat)⟩
def canP (d:Design)(k:Int)(st:CanS):CanS:=if k∈st.S then st else ⟨metN st.R (gP d.Pieces k).North,metN st.C (gP d.Pieces k).East,st.S++[k],{ st.out with Pieces:=st.out.Pieces++[canQ st.R st.C (gP d.Pieces k)] }⟩
def canT (d:Design)(ks:List Int)(st:CanS)(i:Nat):CanS:=canP d (ks.getD i 0) (canB d i (canL d i st))
def canI (d:Design)(ks:List Int)(i:Nat):CanS:=(List.range i).foldl (canT d ks) can0
theorem canI_next (d:Design)(ks:List Int)(i:Nat):canI d ks (i+1)=canT d ks (canI d ks i) i:=by unfold canI;rw [List.range_succ,List.foldl_append];rfl
structure InvC (d:Design) (ks:List Int) (i:Nat) (st:CanS):Prop where
  rn:st.R.Nodup
  cn:st.C.Nodup
  rl:st.R.length≤2*i
  cl:st.C.length≤2*i
  sl:st.S.length≤i
  sn:st.S.Nodup
  ll:st.out.Left.length≤i
  bl:st.out.Bottom.length≤i
  pl:st.out.Pieces.length≤i
  sm:∀ k,k∈st.S→(gP d.Pieces k).North∈st.R∧(gP d.Pieces k).East∈st.C
  si:∀ k,k∈st.S→k∈ks
  me:∀ j,j<i→ks.getD j 0∈st.S
theorem invC_0 (d:Design)(ks:List Int):InvC d ks 0 can0:=⟨List.nodup_nil,List.nodup_nil,by simp [can0],by simp [can0],by simp [can0],List.nodup_nil,by simp [can0],by simp [can0],by simp [can0],(fun k h=>by cases h),(fun k h=>by cases h),(fun j h=>by omega)⟩
theorem invC_step {d:Design} {ks:List Int} {i:Nat} {st:CanS} (hW:0<d.Bottom.length) (h:InvC d ks i st) (hi:i<ks.length) (hf:fitI d ks i) :
    InvC d ks (i+1) (canT d ks st i)∧(gP d.Pieces (ks.getD i 0)).South∈(canB d i (canL d i st)).R∧(gP d.Pieces (ks.getD i 0)).West∈(canB d i (canL d i st)).C:=by
  obtain ⟨R,C,S,out⟩:=st;obtain ⟨rn,cn,rl,cl,sl,sn,ll,bl,pl,sm,si,me⟩:=h;simp only at rn cn rl cl sl sn ll bl pl sm si me;have hA:∃ C1 l1,canL d i ⟨R,C,S,out⟩=⟨R,C1,S,{ out with Left:=l1 }⟩∧C1.Nodup∧C1.length≤C.length+1∧(∀ x,x∈C→x∈C1)∧l1.length≤i+1∧(i % d.Bottom.length=0→d.Left.getD (i / d.Bottom.length) 0∈C1):=by
    unfold canL;split
    · exact ⟨_,_,rfl,metN_nd cn,metN_len _ _,fun x hx=>metN_sub hx,by simp;omega,fun _=>metN_mem _ _⟩
    · exact ⟨C,out.Left,rfl,cn,by omega,fun x hx=>hx,by omega,fun hz=>by contradiction⟩
  obtain ⟨C1,l1,eA,c1n,c1l,c1s,l1l,c1m⟩:=hA;have hB:∃ R1 b1,canB d i ⟨R,C1,S,{ out with Left:=l1 }⟩=⟨R1,C1,S,{ out with Left:=l1,Bottom:=b1 }⟩∧R1.Nodup∧R1.length≤R.length+1∧(∀ x,x∈R→x∈R1)∧b1.length≤i+1∧(i<d.Bottom.length→d.Bottom.getD i 0∈R1):=by
    unfold canB;split
    · exact ⟨_,_,rfl,metN_nd rn,metN_len _ _,fun x hx=>metN_sub hx,by simp;omega,fun _=>metN_mem _ _⟩
    · exact ⟨R,out.Bottom,rfl,rn,by omega,fun x hx=>hx,by omega,fun hz=>by contradiction⟩
  obtain ⟨R1,b1,eB,r1n,r1l,r1s,b1l,r1m⟩:=hB;unfold canT;rw [eA,eB];obtain ⟨f1,f2⟩:=hf;refine ⟨?_,?_,?_⟩
  · unfold canP;simp only;split
    · rename_i hk;exact ⟨r1n,c1n,by simp only;omega,by simp only;omega,by simp only;omega,sn,l1l,b1l,by simp only;omega,fun k hk=>⟨r1s _ (sm k hk).1,c1s _ (sm k hk).2⟩,si,fun j hj=>by
        by_cases hji:j=i
        · subst hji;exact hk
        · exact me j (by omega)⟩
    · rename_i hk;refine ⟨metN_nd r1n,metN_nd c1n,by have:=metN_len R1 (gP d.Pieces (ks.getD i 0)).North;simp only;omega,by have:=metN_len C1 (gP d.Pieces (ks.getD i 0)).East;simp only;omega,by simp;omega,?_,l1l,b1l,by simp;omega,fun k hk=>?_,fun k hk=>?_,fun j hj=>?_⟩
      · exact List.nodup_append.2 ⟨sn,by simp,fun x hx y hy e=>by simp at hy;subst hy;subst e;exact hk hx⟩
      · rcases List.mem_append.1 hk with hk | hk
        · exact ⟨metN_sub (r1s _ (sm k hk).1),metN_sub (c1s _ (sm k hk).2)⟩
        · rw [List.mem_singleton] at hk;subst hk;exact ⟨metN_mem _ _,metN_mem _ _⟩
      · rcases List.mem_append.1 hk with hk | hk
        · exact si k hk
        · rw [List.mem_singleton] at hk;subst hk;rw [List.getD_eq_getElem?_getD,List.getElem?_eq_getElem hi];exact List.getElem_mem hi
      · by_cases hji:j=i
        · subst hji;exact List.mem_append_right _ (List.mem_singleton.2 rfl)
        · exact List.mem_append_left _ (me j (by omega))
  · show _∈R1;rw [f1];split
    · rename_i hb;exact r1m hb
    · exact r1s _ (sm _ (me _ (by omega))).1
  · show _∈C1;rw [f2];split
    · rename_i hb;exact c1m hb
    · rename_i hb;have:0<i:=Nat.pos_of_ne_zero (fun e=>hb (by rw [e];simp));exact c1s _ (sm _ (me _ (by omega))).2
theorem invC_at {d:Design}{ks:List Int}(hW:0<d.Bottom.length)(hf:∀ i,i<ks.length→fitI d ks i):∀ i,i≤ks.length→InvC d ks i (canI d ks i)
  | 0,_=>invC_0 d ks
  | i+1,h=>by rw [canI_next];exact (invC_step hW (invC_at hW hf i (by omega)) (by omega) (hf i (by omega))).1
def CanonicalDesignR (d:Design):Design:=if runCode d=0 then (canI d (runRes d) (runRes d).length).out else ⟨[],[],[]⟩
def CanonicalDesignC (d:Design):Int:=runCode d
theorem runCode_0 {d:Design}(h:runCode d=0):okDsn d=true∧runAll d=true∧runRes d=runOut d:=by
  unfold runCode at h;unfold runRes;cases h1:okDsn d with
  | false=>rw [h1] at h;simp at h
  | true =>
    cases h2:runAll d with
    | false=>rw [h1,h2] at h;simp at h
    | true=>exact ⟨rfl,rfl,rfl⟩
theorem runRes_len (d:Design):(runRes d).length≤100:=by
  unfold runRes;split
  · rename_i h;split
    · exact runYi_out h
    · simp
  · simp
theorem runRes_in {d:Design}(h:runCode d=0):∀ k,k∈runRes d→0≤k∧k<d.Pieces.length:=by obtain ⟨_,h2,h3⟩:=runCode_0 h;rw [h3];exact runOut_in h2
def smO (x:Int):Prop:=0≤x∧x≤1000
def okOut (o:Design):Prop:=(∀ x,x∈o.Bottom→smO x)∧(∀ x,x∈o.Left→smO x)∧∀ p,p∈o.Pieces→smO p.Color∧smO p.North∧smO p.East∧smO p.South∧smO p.West
theorem numN_le (N:List Int)(k:Int):numN N k≤N.length:=List.idxOf_le_length
theorem num_sm {N:List Int}{k:Int}(h:N.length≤900):smO ((numN (metN N k) k:Nat):Int):=by have h1:=numN_le (metN N k) k;have h2:=metN_len N k;unfold smO;omega
theorem num_sm' {N:List Int}{k:Int}(h:N.length≤900):smO ((numN N k:Nat):Int):=by have h1:=numN_le N k;unfold smO;omega
theorem out_app {l:List Int}{x:Int}(h:∀ y,y∈l→smO y)(hx:smO x):∀ y,y∈l++[x]→smO y:=fun y hy=>by
  rcases List.mem_append.1 hy with hy | hy
  · exact h y hy
  · rw [List.mem_singleton] at hy;subst hy;exact hx
theorem canT_ok {d:Design}{ks:List Int}{i:Nat}{st:CanS}(h:okOut st.out)(hR:st.R.length≤800)(hC:st.C.length≤800)(hc:smO (gP d.Pieces (ks.getD i 0)).Color):okOut (canT d ks st i).out:=by
  obtain ⟨R,C,S,out⟩:=st;simp only at h hR hC;have hA:∃ C1 l1,canL d i ⟨R,C,S,out⟩=⟨R,C1,S,{ out with Left:=l1 }⟩∧C1.length≤801∧∀ x,x∈l1→smO x:=by
    unfold canL;split
    · exact ⟨_,_,rfl,Nat.le_trans (metN_len _ _) (show C.length+1≤801 by omega),out_app h.2.1 (num_sm (N:=C) (by omega))⟩
    · exact ⟨C,out.Left,rfl,by omega,h.2.1⟩
  obtain ⟨C1,l1,eA,c1l,l1m⟩:=hA;have hB:∃ R1 b1,canB d i ⟨R,C1,S,{ out with Left:=l1 }⟩=⟨R1,C1,S,{ out with Left:=l1,Bottom:=b1 }⟩∧R1.length≤801∧∀ x,x∈b1→smO x:=by
    unfold canB;split
    · exact ⟨_,_,rfl,Nat.le_trans (metN_len _ _) (show R.length+1≤801 by omega),out_app h.1 (num_sm (N:=R) (by omega))⟩
    · exact ⟨R,out.Bottom,rfl,by omega,h.1⟩
  obtain ⟨R1,b1,eB,r1l,b1m⟩:=hB;unfold canT;rw [eA,eB];unfold canP;simp only;split
  · exact ⟨b1m,l1m,h.2.2⟩
  · refine ⟨b1m,l1m,fun p hp=>?_⟩;rcases List.mem_append.1 hp with hp | hp
    · exact h.2.2 p hp
    · rw [List.mem_singleton] at hp;subst hp;exact ⟨hc,num_sm (by omega),num_sm (by omega),num_sm' (by omega),num_sm' (by omega)⟩
theorem can_ok {d:Design}(h0:runCode d=0):∀ i,i≤(runRes d).length→okOut (canI d (runRes d) i).out:=by
  obtain ⟨hok,hall,hres⟩:=runCode_0 h0;have hpts:=dsn_parts hok;have hW:=hpts.1.1;have hfit:=(run_fit (by omega) hall).2;rw [← hres] at hfit;have hl:=runRes_len d;have hin:=runRes_in h0;intro i;induction i with
  | zero=>intro _;exact ⟨fun x hx=>(by cases hx),fun x hx=>(by cases hx),fun x hx=>(by cases hx)⟩
  | succ i ih =>
    intro hi;have hI:=invC_at (by omega) hfit i (by omega);rw [canI_next];refine canT_ok (ih (by omega)) (by have:=hI.rl;omega) (by have:=hI.cl;omega) ?_;have e1:=List.getElem?_eq_getElem (show i<(runRes d).length by omega);have hk:=hin _ (List.mem_of_getElem? e1);rw [List.getD_eq_getElem?_getD,e1];unfold gP;have hkl:(runRes d)[i].toNat<d.Pieces.length:=by omega
    rw [List.getD_eq_getElem?_getD,Option.getD_some,List.getElem?_eq_getElem hkl,Option.getD_some];have:=hpts.2.2.2.1 _ (List.getElem_mem hkl);unfold okPc at this;simp only [Bool.and_eq_true,inR_iff] at this;exact ⟨by omega,by omega⟩
theorem can_sz {d:Design}(h0:runCode d=0):(CanonicalDesignR d).Bottom.length≤100∧(CanonicalDesignR d).Left.length≤100∧(CanonicalDesignR d).Pieces.length≤100:=by obtain ⟨hok,hall,hres⟩:=runCode_0 h0;have hW:=(dsn_parts hok).1.1;have hfit:=(run_fit (by omega) hall).2;rw [← hres] at hfit;have hl:=runRes_len d;have hI:=invC_at (by omega) hfit _ (Nat.le_refl _);unfold CanonicalDesignR;rw [if_pos h0];exact ⟨Nat.le_trans hI.bl hl,Nat.le_trans hI.ll hl,Nat.le_trans hI.pl hl⟩
theorem CanonicalDesignR_ok (d:Design)(_:Design.td.ok d)(_:Design.cnt d≤1048576):Design.td.ok (CanonicalDesignR d):=by
  rw [Design.td_ok];by_cases h0:runCode d=0
  · have h:=can_ok h0 _ (Nat.le_refl _);unfold CanonicalDesignR;rw [if_pos h0];have hs:∀ x,smO x→InK .i64 x:=fun x hx=>⟨by have:=hx.1;omega,by have:=hx.2;omega⟩
    refine ⟨fun x hx=>hs x (h.1 x hx),fun x hx=>hs x (h.2.1 x hx),fun p hp=>?_⟩;obtain ⟨p1,p2,p3,p4,p5⟩:=h.2.2 p hp;exact ⟨hs _ p1,hs _ p2,hs _ p3,hs _ p4,hs _ p5⟩
  · unfold CanonicalDesignR;rw [if_neg h0];exact ⟨fun x hx=>(by cases hx),fun x hx=>(by cases hx),fun x hx=>(by cases hx)⟩
theorem CanonicalDesignR_cn (d:Design):Design.cnT (CanonicalDesignR d)≤1000000000000:=by
  have h1:=Design.cnT_le (CanonicalDesignR d);unfold Design.cnt at h1;by_cases h0:runCode d=0
  · have:=can_sz h0;omega
  · have:CanonicalDesignR d=⟨[],[],[]⟩:=(by unfold CanonicalDesignR;rw [if_neg h0]);rw [this] at h1 ⊢;simp at h1;omega
end Go.Proofs.Ytaleehohmpohoaa
