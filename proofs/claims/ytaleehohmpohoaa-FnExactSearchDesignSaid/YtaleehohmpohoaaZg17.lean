/- Laws that the proof stands on. -/
import Derived.Test.YtaleehohmpohoaaZVSrP
import Derived.Test.YtaleehohmpohoaaZVB
import Derived.Test.YtaleehohmpohoaaZg16
import Derived.Test.YtaleehohmpohoaaZg12
import Derived.Test.YtaleehohmpohoaaZg6
import Derived.Test.YtaleehohmpohoaaZg13
set_option linter.all false
namespace Go.Proofs.Ytaleehohmpohoaa
open Go.RowKit Go.V
set_option maxRecDepth 100000
structure OkR (K:SK) (bl lf:Nat) (z:SR):Prop where
  st:0≤z.steps∧z.steps≤K.budget
  ro:Glu z.rows
  co:Glu z.cols
  be:z.below.length=bl
  bo:z.bottom.length=bl
  lo:z.left.length=lf
  lp:(z.pieces.length:Int)≤K.most
def StR (K:SK)(z:SR):Prop:=0≤z.steps∧z.steps≤K.budget
def FrR (K:SK)(z:SR)(q:Bool×SR):Prop:=StR K q.2∧(q.1=false→∃ n f,q.2={ z with steps:=n,full:=f })
def FramR (K:SK)(bl lf:Nat)(g:SR→Bool×SR):Prop:=∀ z,OkR K bl lf z→FrR K z (g z)
theorem OkR.frame {K:SK}{bl lf:Nat}{z:SR}{n:Int}{f:Bool}(h:OkR K bl lf z)(hn:0≤n∧n≤K.budget):OkR K bl lf { z with steps:=n,full:=f }:=⟨hn,h.ro,h.co,h.be,h.bo,h.lo,h.lp⟩
theorem roundsR_fr {K:SK}{Inv:SR→Prop}{pre:Int→SR→SR}{go:Int→SR→Bool×SR}{post fin:SR→SR}(hst:∀ z,Inv z→StR K z)(hfin:∀ z,(fin z).steps=z.steps)
    (hgo:∀ k z,0≤k→k≤119→Inv z→StR K (go k (pre k z)).2∧((go k (pre k z)).1=false→Inv (post (go k (pre k z)).2))) :
    ∀ (f:Nat) (k:Int) (z:SR),0≤k→k+f≤120→Inv z→StR K (roundsR pre go post fin f k z).2∧((roundsR pre go post fin f k z).1=false→∃ z0,Inv z0∧(roundsR pre go post fin f k z).2=fin z0)
  | 0,k,z,_,_,h=>⟨by unfold StR roundsR;rw [hfin];exact hst z h,fun _=>⟨z,h,rfl⟩⟩
  | f + 1,k,z,h0,h1,h=>by
    unfold roundsR;by_cases hf:z.full=true
    · rw [if_pos hf];exact ⟨by unfold StR;rw [hfin];exact hst z h,fun _=>⟨z,h,rfl⟩⟩
    · rw [if_neg hf];obtain ⟨g1,g2⟩:=hgo k z h0 (by omega) h;cases hr:(go k (pre k z)).1 with
      | true=>rw [if_pos rfl];exact ⟨g1,fun e=>by rw [hr] at e;cases e⟩
      | false=>rw [if_neg (by decide)];exact roundsR_fr hst hfin hgo f (k+1) _ (by omega) (by omega) (g2 hr)
theorem nEach_120 {b:Int}(h:Glu b):(0:Int)+(nEach b:Nat)≤120:=by unfold nEach Glu at *;omega
variable {K:SK}
theorem fram_put {at_:SR→Bool×SR}{i bl lf:Nat}(hb:i % K.W<bl)(p:Piece)(h:FramR K bl lf at_):FramR K bl lf (putR K at_ i p):=fun z hz=>by
  obtain ⟨h1,h2⟩:=h { z with below:=z.below.set (i % K.W) p.North,west:=p.East } ⟨hz.st,hz.ro,hz.co,by simpa using hz.be,hz.bo,hz.lo,hz.lp⟩;unfold putR;generalize at_ { z with below:=z.below.set (i % K.W) p.North,west:=p.East }=q at *;unfold backR;cases hr:q.1 with
  | true=>exact ⟨by simpa [StR] using h1,fun e=>by cases e⟩
  | false=>obtain ⟨n,f,e⟩:=h2 hr;refine ⟨by simpa [StR] using h1,fun _=>⟨n,f,?_⟩⟩;simp only [Bool.false_eq_true,if_false];rw [e];simp only;rw [set_set_getD _ (by rw [hz.be];exact hb)]
def KeptR (K:SK)(z0 z:SR):Prop:=∃ n f r c,z={ z0 with steps:=n,full:=f,rows:=r,cols:=c }∧(0≤n∧n≤K.budget)
theorem fram_new {at_:SR→Bool×SR} {i bl lf:Nat} (so we:Int) (h:∀ p,FramR K bl lf (putR K at_ i p)) (z0:SR) (hz:OkR K bl lf z0) (hl:(z0.pieces.length:Int)<K.most):FrR K z0 (newR K at_ i so we z0):=by
  unfold newR;have hin:∀ n,0≤n→n≤119→∀ z,KeptR K z0 z→StR K (roundsR (fun e z=>preN z0.rows z0.cols n e ⟨K.Cells.getD i 0,n,e,so,we⟩ z) (fun e=>putR K at_ i ⟨K.Cells.getD i 0,n,e,so,we⟩) postN id (nEach z0.cols) 0 z).2∧((roundsR (fun e z=>preN z0.rows z0.cols n e ⟨K.Cells.getD i 0,n,e,so,we⟩ z) (fun e=>putR K at_ i ⟨K.Cells.getD i 0,n,e,so,we⟩) postN id (nEach z0.cols) 0 z).1=false→KeptR K z0 (roundsR (fun e z=>preN z0.rows z0.cols n e ⟨K.Cells.getD i 0,n,e,so,we⟩ z) (fun e=>putR K at_ i ⟨K.Cells.getD i 0,n,e,so,we⟩) postN id (nEach z0.cols) 0 z).2):=by
    intro n hn0 hn1 z hk;obtain ⟨k1,k2⟩:=roundsR_fr (K:=K) (Inv:=KeptR K z0) (pre:=fun e z=>preN z0.rows z0.cols n e ⟨K.Cells.getD i 0,n,e,so,we⟩ z) (go:=fun e=>putR K at_ i ⟨K.Cells.getD i 0,n,e,so,we⟩) (post:=postN) (fin:=id)
      (fun z h=>by obtain ⟨_,_,_,_,rfl,hn⟩:=h;exact hn) (fun _=>rfl) (fun e z he0 he1 hk=>by
        obtain ⟨m,f,r,c,rfl,hm⟩:=hk;have h1:=h ⟨K.Cells.getD i 0,n,e,so,we⟩ (preN z0.rows z0.cols n e ⟨K.Cells.getD i 0,n,e,so,we⟩ { z0 with steps:=m,full:=f,rows:=r,cols:=c }) ⟨hm,glu_max hz.ro hn0 hn1,glu_max hz.co he0 he1,hz.be,hz.bo,hz.lo,by
          show ((z0.pieces++[_]).length:Int)≤K.most;simp only [List.length_append,List.length_cons,List.length_nil];omega⟩
        refine ⟨h1.1,fun hr=>?_⟩;obtain ⟨m',f',e'⟩:=h1.2 hr;have hs:=h1.1;rw [e'] at hs ⊢;exact ⟨m',f',max z0.rows (n+1),max z0.cols (e+1),by simp [postN,preN],hs⟩) (nEach z0.cols) 0 z (Int.le_refl _) (nEach_120 hz.co) hk
    refine ⟨k1,fun hr=>?_⟩;obtain ⟨z1,hz1,e⟩:=k2 hr;rw [e];exact hz1
  obtain ⟨k1,k2⟩:=roundsR_fr (K:=K) (Inv:=KeptR K z0) (pre:=fun _ z=>z) (go:=fun n=>roundsR (fun e z=>preN z0.rows z0.cols n e ⟨K.Cells.getD i 0,n,e,so,we⟩ z) (fun e=>putR K at_ i ⟨K.Cells.getD i 0,n,e,so,we⟩) postN id (nEach z0.cols) 0) (post:=id) (fin:=fun z=>{ z with rows:=z0.rows,cols:=z0.cols })
    (fun z h=>by obtain ⟨_,_,_,_,rfl,hn⟩:=h;exact hn) (fun _=>rfl) (fun n z h0 h1 hk=>hin n h0 h1 z hk) (nEach z0.rows) 0 z0 (Int.le_refl _) (nEach_120 hz.ro) ⟨_,_,_,_,rfl,hz.st⟩
  refine ⟨k1,fun hr=>?_⟩;obtain ⟨z1,⟨n,f,r,c,rfl,_⟩,e⟩:=k2 hr;exact ⟨n,f,e⟩
theorem fram_lay {at_:SR→Bool×SR}{i bl lf:Nat}(so we:Int)(h:∀ p,FramR K bl lf (putR K at_ i p)):FramR K bl lf (layR K at_ i so we):=fun z hz=>by
  unfold layR;by_cases hb:K.budget≤z.steps
  · rw [if_pos hb];exact ⟨hz.st,fun _=>⟨_,_,rfl⟩⟩
  · rw [if_neg hb];have hz1:OkR K bl lf { z with steps:=z.steps+1 }:=⟨by have:=hz.st;dsimp only;omega,hz.ro,hz.co,hz.be,hz.bo,hz.lo,hz.lp⟩
    suffices hs:FrR K { z with steps:=z.steps+1 } (fitR K at_ i so we { z with steps:=z.steps+1 }) from ⟨hs.1,fun hr=>by
      obtain ⟨n,f,e⟩:=hs.2 hr;exact ⟨n,f,e⟩⟩
    have hid:∀ z,OkR K bl lf z→FrR K z (false,z):=fun z hz=>⟨hz.st,fun _=>⟨_,_,rfl⟩⟩
    unfold fitR;dsimp only;cases z.pieces.find? (isInl so we) with
    | some p =>
      dsimp only;split
      · exact h p _ hz1
      · exact hid _ hz1
    | none =>
      dsimp only;split
      · exact hid _ hz1
      · exact fram_new so we h _ hz1 (by dsimp only;omega)
theorem fram_south {at_:SR→Bool×SR} {i lf:Nat} (we:Int) (h:∀ p,FramR K (min (i+1) K.W) lf (putR K at_ i p)):FramR K (min i K.W) lf (southR K at_ i we):=fun z0 hz=>by
  unfold southR;by_cases hw:K.W≤i
  · rw [if_pos hw];have e:min i K.W=min (i+1) K.W:=by omega
    rw [e] at hz;exact fram_lay _ we h z0 hz
  · rw [if_neg hw];have e1:min i K.W=i:=by omega
    have e2:min (i+1) K.W=i+1:=(by omega);rw [e1] at hz;rw [e2] at h;obtain ⟨k1,k2⟩:=roundsR_fr (K:=K) (Inv:=fun z=>∃ n f r,z={ z0 with steps:=n,full:=f,rows:=r }∧(0≤n∧n≤K.budget)) (pre:=preS z0.rows) (go:=fun k=>layR K at_ i k we) (post:=postS) (fin:=fun z'=>{ z' with rows:=z0.rows })
      (fun z h=>by obtain ⟨_,_,_,rfl,hn⟩:=h;exact hn) (fun _=>rfl) (fun k z h0 h1 hk=>by
        obtain ⟨m,f,r,rfl,hm⟩:=hk;have hl:=fram_lay (K:=K) k we h (preS z0.rows k { z0 with steps:=m,full:=f,rows:=r }) ⟨hm,glu_max hz.ro h0 h1,hz.co,by
          show (z0.below++[k]).length=i+1;rw [List.length_append,hz.be];rfl,by
          show (z0.bottom++[k]).length=i+1;rw [List.length_append,hz.bo];rfl,hz.lo,hz.lp⟩
        refine ⟨hl.1,fun hr=>?_⟩;obtain ⟨m',f',e'⟩:=hl.2 hr;have hs:=hl.1;rw [e'] at hs ⊢;exact ⟨m',f',max z0.rows (k+1),by simp [postS,preS],hs⟩) (nEach z0.rows) 0 z0 (Int.le_refl _) (nEach_120 hz.ro) ⟨_,_,_,rfl,hz.st⟩
    refine ⟨k1,fun hr=>?_⟩;obtain ⟨z1,⟨n,f,r,rfl,_⟩,e⟩:=k2 hr;exact ⟨n,f,e⟩
theorem fram_left {at_:SR→Bool×SR} {i:Nat} (h:∀ p,FramR K (min (i+1) K.W) (i / K.W+1) (putR K at_ i p)):FramR K (min i K.W) (i / K.W) (leftR K at_ i):=fun z0 hz=>by
  unfold leftR;obtain ⟨k1,k2⟩:=roundsR_fr (K:=K) (Inv:=fun z=>∃ n f c,z={ z0 with steps:=n,full:=f,cols:=c }∧(0≤n∧n≤K.budget)) (pre:=preL z0.cols) (go:=fun k=>southR K at_ i k) (post:=postL) (fin:=fun z'=>{ z' with cols:=z0.cols })
    (fun z h=>by obtain ⟨_,_,_,rfl,hn⟩:=h;exact hn) (fun _=>rfl) (fun k z h0 h1 hk=>by
      obtain ⟨m,f,r,rfl,hm⟩:=hk;have hl:=fram_south (K:=K) k h (preL z0.cols k { z0 with steps:=m,full:=f,cols:=r }) ⟨hm,hz.ro,glu_max hz.co h0 h1,hz.be,hz.bo,by
        show (z0.left++[k]).length=i / K.W+1;rw [List.length_append,hz.lo];rfl,hz.lp⟩
      refine ⟨hl.1,fun hr=>?_⟩;obtain ⟨m',f',e'⟩:=hl.2 hr;have hs:=hl.1;rw [e'] at hs ⊢;exact ⟨m',f',max z0.cols (k+1),by simp [postL,preL],hs⟩) (nEach z0.cols) 0 z0 (Int.le_refl _) (nEach_120 hz.co) ⟨_,_,_,rfl,hz.st⟩
  refine ⟨k1,fun hr=>?_⟩;obtain ⟨z1,⟨n,f,r,rfl,_⟩,e⟩:=k2 hr;exact ⟨n,f,e⟩
theorem ceil_zero {i W:Nat}(hW:0<W)(hm:i % W=0):(i+W-1) / W=i / W:=by have hd:=Nat.div_add_mod i W;rw [hm,Nat.add_zero] at hd;generalize i / W=q at *;rw [← hd,show W*q+W-1=W-1+W*q by omega,Nat.add_mul_div_left _ _ hW,Nat.div_eq_of_lt (by omega),Nat.zero_add]
theorem ceil_pos {i W:Nat}(hW:0<W)(hm:i % W≠0):(i+W-1) / W=i / W+1:=by have hd:=Nat.div_add_mod i W;have hlt:=Nat.mod_lt i hW;generalize i / W=q at *;generalize i % W=r at *;rw [← hd,show W*q+r+W-1=(r-1)+W*q+W by omega,Nat.add_div_right _ hW,Nat.add_mul_div_left _ _ hW,Nat.div_eq_of_lt (by omega),Nat.zero_add]
theorem fram_at (hW:0<K.W):∀ n,n≤K.Cells.length→FramR K (min (K.Cells.length-n) K.W) ((K.Cells.length-n+K.W-1) / K.W) (atR K n)
  | 0,_=>fun z hz=>⟨hz.st,fun e=>by cases e⟩
  | n+1,hn=>by
    have ih:=fram_at hW n (by omega);rw [show K.Cells.length-n=K.Cells.length-(n+1)+1 by omega,ceil_add hW] at ih;intro z hz;unfold atR;generalize K.Cells.length-(n+1)=i at *;have hb:i % K.W<min (i+1) K.W:=(by have:=Nat.mod_lt i hW;have:=Nat.mod_le i K.W;omega);have hp:=fun p=>fram_put hb p ih;by_cases hm:i % K.W=0
    · rw [if_pos hm];rw [ceil_zero hW hm] at hz;exact fram_left hp z hz
    · rw [if_neg hm];rw [ceil_pos hW hm] at hz;exact fram_south _ hp z hz
theorem mkL_ok {α:Type}{ok:α→Prop}{mk:α→Int→α}{cn:α→Nat}(h:∀ (x:α) (k:Int),0≤k→k+(cn x:Nat)≤4611686018427387904→ok (mk x k)):∀ (xs:List α) (k:Int),0≤k→k+(cnS cn xs:Nat)≤4611686018427387904→∀ y,y∈mkL mk cn xs k→ok y
  | [],k,_,_,y,hy=>by simp [mkL] at hy
  | x::xs,k,h0,hk,y,hy=>by
    have e:cnS cn (x::xs)=cn x+cnS cn xs:=(by unfold cnS;rw [List.map_cons,List.sum_cons]);unfold mkL at hy;rcases List.mem_cons.1 hy with rfl | hy
    · exact h x k h0 (by omega)
    · exact mkL_ok h xs _ (by omega) (by omega) y hy
theorem mkI_ok (x:Int)(k:Int)(h0:0≤k)(hk:k+(1:Nat)≤4611686018427387904):(TD.int .i64).ok k:=show InK .i64 _ from ⟨by omega,by omega⟩
theorem Pattern.mkE_ok (x:Pattern)(k:Int)(h0:0≤k)(hk:k+(Pattern.cnE x:Nat)≤4611686018427387904):Pattern.td.ok (Pattern.mkE x k):=by have hc:Pattern.cnE x=1+1+cnS (fun _=>1) x.Cells:=rfl;rw [Pattern.td_ok];exact ⟨(show InK .i64 (k) from ⟨by omega,by omega⟩),(show InK .i64 ((k+1)) from ⟨by omega,by omega⟩),(mkL_ok (ok:=(TD.int .i64).ok) mkI_ok _ ((k+1)+1) (by omega) (by omega))⟩
theorem v_szPattern (q:Pattern)(hk:Pattern.td.ok q)(l:Int)(h0:0≤l)(h1:l≤1048576):Contract Try.prog NoG 14 [.agg (Pattern.td.d false q),.v (.int .i64 l)] (.v (.int .i64 (szR l (Pattern.cnt q)))):=by refine contract_plain (fun us W=>by kernel_rfl) fun w I us hI hV=>?_;obtain ⟨u0,us,rfl,hT0,hV⟩:=vals_one hV;obtain ⟨u1,us,rfl,hT1,hV⟩:=vals_one hV;obtain rfl:=vals_none hV;obtain rfl:=T_v hT1;obtain ⟨cs,rfl,hr⟩:=TD.agg_dn Pattern.td hk hI rfl hT0;obtain ⟨v0,rfl,z0,z1,z2⟩:=Pattern.cells hr;exact szPattern_any v0 q l h0 h1 w w.heap.size (Nat.le_refl _) z2
theorem v_eqPattern (q:Pattern)(hk:Pattern.td.ok q):Contract Try.prog NoG 18 [.agg (Pattern.td.d false q),.agg (Pattern.td.d false q)] (.v (.bool true)):=by refine contract_plain (fun us W=>by kernel_rfl) fun w I us hI hV=>?_;obtain ⟨u0,us,rfl,hT0,hV⟩:=vals_one hV;obtain ⟨u1,us,rfl,hT1,hV⟩:=vals_one hV;obtain rfl:=vals_none hV;obtain ⟨cs,rfl,hr⟩:=TD.agg_dn Pattern.td hk hI rfl hT0;obtain ⟨ds,rfl,hs⟩:=TD.agg_dn Pattern.td hk hI rfl hT1;obtain ⟨v0,rfl,z0,z1,z2⟩:=Pattern.cells hr;obtain ⟨x0,rfl,y0,y1,y2⟩:=Pattern.cells hs;exact eqPattern_any v0 x0 q w w.heap.size (Nat.le_refl _) z2 y2
theorem Pattern.mkT_ok (x:Pattern)(hx:Pattern.td.ok x)(k:Int)(h0:0≤k)(hk:k+(Pattern.cnT x:Nat)≤4611686018427387904):Pattern.td.ok (Pattern.mkT x k):=by have hc:Pattern.cnT x=cnS (fun _=>1) x.Cells:=rfl;rw [Pattern.td_ok] at hx;rw [Pattern.td_ok];exact ⟨hx.1,hx.2.1,(mkL_ok (ok:=(TD.int .i64).ok) mkI_ok _ k (by omega) (by omega))⟩
theorem v_markPattern (q:Pattern)(hk:Pattern.td.ok q)(k:Int)(h0:0≤k)(h1:k+(Pattern.cnT q:Nat)≤4611686018427387904):ContractL Try.prog NoG 19 0 [.undef,.v (.int .i64 k)] (.agg (Pattern.td.d true q)) (.v (.int .i64 (k+(Pattern.cnT q:Nat)))) (.agg (Pattern.td.d false (Pattern.mkT q k))):=by refine mark_agg Pattern.td (fun us W=>by kernel_rfl) hk fun w cs X ho hn hX=>?_;have hr:=Ty.own_lt _ ho;obtain ⟨v0,rfl,z0,z1,z2⟩:=Pattern.cells hr;exact markPattern_any v0 q k X w ho hn hX h0 h1
theorem Piece.mkE_ok (x:Piece)(k:Int)(h0:0≤k)(hk:k+(Piece.cnE x:Nat)≤4611686018427387904):Piece.td.ok (Piece.mkE x k):=by have hc:Piece.cnE x=1+1+1+1+1:=rfl;rw [Piece.td_ok];exact ⟨(show InK .i64 (k) from ⟨by omega,by omega⟩),(show InK .i64 ((k+1)) from ⟨by omega,by omega⟩),(show InK .i64 (((k+1)+1)) from ⟨by omega,by omega⟩),(show InK .i64 ((((k+1)+1)+1)) from ⟨by omega,by omega⟩),(show InK .i64 (((((k+1)+1)+1)+1)) from ⟨by omega,by omega⟩)⟩
theorem Design.mkE_ok (x:Design)(k:Int)(h0:0≤k)(hk:k+(Design.cnE x:Nat)≤4611686018427387904):Design.td.ok (Design.mkE x k):=by have hc:Design.cnE x=cnS (fun _=>1) x.Bottom+cnS (fun _=>1) x.Left+cnS Piece.cnE x.Pieces:=rfl;rw [Design.td_ok];exact ⟨(mkL_ok (ok:=(TD.int .i64).ok) mkI_ok _ k (by omega) (by omega)),(mkL_ok (ok:=(TD.int .i64).ok) mkI_ok _ (k+(cnS (fun _=>1) x.Bottom:Nat)) (by omega) (by omega)),(mkL_ok (ok:=Piece.td.ok) Piece.mkE_ok _ ((k+(cnS (fun _=>1) x.Bottom:Nat))+(cnS (fun _=>1) x.Left:Nat)) (by omega) (by omega))⟩
theorem v_eqDesign (q:Design)(hk:Design.td.ok q):Contract Try.prog NoG 11 [.agg (Design.td.d false q),.agg (Design.td.d false q)] (.v (.bool true)):=by refine contract_plain (fun us W=>by kernel_rfl) fun w I us hI hV=>?_;obtain ⟨u0,us,rfl,hT0,hV⟩:=vals_one hV;obtain ⟨u1,us,rfl,hT1,hV⟩:=vals_one hV;obtain rfl:=vals_none hV;obtain ⟨cs,rfl,hr⟩:=TD.agg_dn Design.td hk hI rfl hT0;obtain ⟨ds,rfl,hs⟩:=TD.agg_dn Design.td hk hI rfl hT1;obtain ⟨v0,v1,v2,rfl,z0,z1,z2⟩:=Design.cells hr;obtain ⟨x0,x1,x2,rfl,y0,y1,y2⟩:=Design.cells hs;exact eqDesign_any v0 v1 v2 x0 x1 x2 q w w.heap.size (Nat.le_refl _) z0 z1 z2 y0 y1 y2
theorem Design.mkT_ok (x:Design)(hx:Design.td.ok x)(k:Int)(h0:0≤k)(hk:k+(Design.cnT x:Nat)≤4611686018427387904):Design.td.ok (Design.mkT x k):=by have hc:Design.cnT x=cnS (fun _=>1) x.Bottom+cnS (fun _=>1) x.Left+cnS Piece.cnE x.Pieces:=rfl;rw [Design.td_ok] at hx;rw [Design.td_ok];exact ⟨(mkL_ok (ok:=(TD.int .i64).ok) mkI_ok _ k (by omega) (by omega)),(mkL_ok (ok:=(TD.int .i64).ok) mkI_ok _ (k+(cnS (fun _=>1) x.Bottom:Nat)) (by omega) (by omega)),(mkL_ok (ok:=Piece.td.ok) Piece.mkE_ok _ ((k+(cnS (fun _=>1) x.Bottom:Nat))+(cnS (fun _=>1) x.Left:Nat)) (by omega) (by omega))⟩
theorem v_markDesign (q:Design)(hk:Design.td.ok q)(k:Int)(h0:0≤k)(h1:k+(Design.cnT q:Nat)≤4611686018427387904):ContractL Try.prog NoG 12 0 [.undef,.v (.int .i64 k)] (.agg (Design.td.d true q)) (.v (.int .i64 (k+(Design.cnT q:Nat)))) (.agg (Design.td.d false (Design.mkT q k))):=by refine mark_agg Design.td (fun us W=>by kernel_rfl) hk fun w cs X ho hn hX=>?_;have hr:=Ty.own_lt _ ho;obtain ⟨v0,v1,v2,rfl,z0,z1,z2⟩:=Design.cells hr;exact markDesign_any v0 v1 v2 q k X w ho hn hX h0 h1
theorem v_heldDesign (q:Design)(hk:Design.td.ok q)(k:Int)(h0:0≤k)(h1:k+(Design.cnT q:Nat)≤4611686018427387904):Contract Try.prog NoG 13 [.agg (Design.td.d false (Design.mkT q k)),.v (.int .i64 k)] (.v (.int .i64 (k+(Design.cnT q:Nat)))):=by refine contract_plain (fun us W=>by kernel_rfl) fun w I us hI hV=>?_;obtain ⟨u0,us,rfl,hT0,hV⟩:=vals_one hV;obtain ⟨u1,us,rfl,hT1,hV⟩:=vals_one hV;obtain rfl:=vals_none hV;obtain rfl:=T_v hT1;obtain ⟨cs,rfl,hr⟩:=TD.agg_dn Design.td (Design.mkT_ok q hk k h0 h1) hI rfl hT0;have hr0:=hr;obtain ⟨v0,v1,v2,rfl,z0,z1,z2⟩:=Design.cells hr;exact heldDesign_any v0 v1 v2 q k w w.heap.size (Nat.le_refl _) hr0 h0 h1
end Go.Proofs.Ytaleehohmpohoaa
