/- Laws that the proof stands on. -/
import Derived.Test.YtaleehohmpohoaaZVDsnP
set_option linter.all false
namespace Go.Proofs.Ytaleehohmpohoaa
open Go.RowKit Go.V
set_option maxRecDepth 100000
structure SK where
  W:Nat
  H:Nat
  Cells:List Int
  most:Int
  budget:Int
structure SI where
  steps:Int
  broke:Bool
  rows:Int
  cols:Int
  bottom:List Int
  left:List Int
  pieces:List Piece
  north:List Int
  east:List Int
structure SR where
  steps:Int
  full:Bool
  bottom:List Int
  left:List Int
  pieces:List Piece
  below:List Int
  west:Int
  rows:Int
  cols:Int
  found:Design
def eachI (set:Int→SI→SI)(go:Int→SI→Bool×SI)(b:Int):Nat→Int→SI→Bool×SI
  | 0,_,s=>(false,set b s)
  | f+1,k,s=>if (go k (set (max b (k+1)) s)).1 then go k (set (max b (k+1)) s) else eachI set go b f (k+1) (go k (set (max b (k+1)) s)).2
def setRows (n:Int)(s:SI):SI:={ s with rows:=n }
def setCols (n:Int)(s:SI):SI:={ s with cols:=n }
def nEach (b:Int):Nat:=(min b 119+1).toNat
def rowsI (go:Int→SI→Bool×SI)(s:SI):Bool×SI:=eachI setRows go s.rows (nEach s.rows) 0 s
def colsI (go:Int→SI→Bool×SI)(s:SI):Bool×SI:=eachI setCols go s.cols (nEach s.cols) 0 s
section
variable (K:SK)
def takeI (cell:SI→Bool×SI)(i:Nat)(p:Piece)(s:SI):Bool×SI:=cell { s with north:=s.north.set i p.North,east:=s.east.set i p.East }
def southI (i:Nat)(s:SI):Int:=if i<K.W then s.bottom.getD i 0 else s.north.getD (i-K.W) 0
def westI (i:Nat)(s:SI):Int:=if i % K.W=0 then s.left.getD (i / K.W) 0 else s.east.getD (i-1) 0
def cutI (n:Nat)(o:Bool×SI):Bool×SI:=(o.1,if o.1 then o.2 else { o.2 with pieces:=o.2.pieces.take n })
def tryI (cell:SI→Bool×SI)(i:Nat)(p:Piece)(s:SI):Bool×SI:=cutI s.pieces.length (takeI cell i p { s with pieces:=s.pieces++[p] })
def newI (cell:SI→Bool×SI)(i:Nat)(so we:Int)(s:SI):Bool×SI:=rowsI (fun n=>colsI (fun e=>tryI cell i ⟨K.Cells.getD i 0,n,e,so,we⟩)) s
def layI (cell:SI→Bool×SI)(i:Nat)(so we:Int)(s:SI):Bool×SI :=
  match s.pieces.find? (isInl so we) with
  | some p=>if p.Color=K.Cells.getD i 0 then takeI cell i p s else (false,s)
  | none=>if K.most≤(s.pieces.length:Int) then (false,s) else newI K cell i so we s
def stepI (cell:SI→Bool×SI)(i:Nat)(s:SI):Bool×SI :=
  if K.budget≤s.steps then (true,{ s with broke:=true }) else layI K cell i (southI K i s) (westI K i s) { s with steps:=s.steps+1 }
def botI (i:Nat)(k:Int)(s:SI):SI:={ s with bottom:=s.bottom.set i k }
def lefI (i:Nat)(k:Int)(s:SI):SI:={ s with left:=s.left.set i k }
def bottomI (cell:SI→Bool×SI)(i:Nat)(s:SI):Bool×SI :=
  if K.W≤i then stepI K cell i s else rowsI (fun n s=>stepI K cell i (botI i n s)) s
def cellI:Nat→SI→Bool×SI
  | 0,s=>(true,s)
  | n+1,s =>
    if (K.Cells.length-(n+1)) % K.W=0 then colsI (fun k s=>bottomI K (cellI n) (K.Cells.length-(n+1)) (lefI ((K.Cells.length-(n+1)) / K.W) k s)) s
    else bottomI K (cellI n) (K.Cells.length-(n+1)) s
/-! The reference. -/
def roundsR (pre:Int→SR→SR)(go:Int→SR→Bool×SR)(post fin:SR→SR):Nat→Int→SR→Bool×SR
  | 0,_,z=>(false,fin z)
  | f+1,k,z=>if z.full then (false,fin z) else if (go k (pre k z)).1 then go k (pre k z) else roundsR pre go post fin f (k+1) (post (go k (pre k z)).2)
def backR (c:Nat)(z:SR)(q:Bool×SR):Bool×SR:=(q.1,if q.1 then q.2 else { q.2 with below:=q.2.below.set c (z.below.getD c 0),west:=z.west })
def putR (at_:SR→Bool×SR)(i:Nat)(p:Piece)(z:SR):Bool×SR :=
  backR (i % K.W) z (at_ { z with below:=z.below.set (i % K.W) p.North,west:=p.East })
def preN (b c n e:Int)(p:Piece)(z:SR):SR:={ z with rows:=max b (n+1),cols:=max c (e+1),pieces:=z.pieces++[p] }
def postN (z:SR):SR:={ z with pieces:=z.pieces.take (z.pieces.length-1) }
def newR (at_:SR→Bool×SR)(i:Nat)(so we:Int)(z0:SR):Bool×SR :=
  roundsR (fun _ z=>z) (fun n=>roundsR (fun e z=>preN z0.rows z0.cols n e ⟨K.Cells.getD i 0,n,e,so,we⟩ z) (fun e=>putR K at_ i ⟨K.Cells.getD i 0,n,e,so,we⟩) postN id (nEach z0.cols) 0) id (fun z=>{ z with rows:=z0.rows,cols:=z0.cols }) (nEach z0.rows) 0 z0
def fitR (at_:SR→Bool×SR)(i:Nat)(so we:Int)(z:SR):Bool×SR :=
  match z.pieces.find? (isInl so we) with
  | some p=>if p.Color=K.Cells.getD i 0 then putR K at_ i p z else (false,z)
  | none=>if K.most≤(z.pieces.length:Int) then (false,z) else newR K at_ i so we z
def layR (at_:SR→Bool×SR)(i:Nat)(so we:Int)(z:SR):Bool×SR :=
  if K.budget≤z.steps then (false,{ z with full:=true }) else fitR K at_ i so we { z with steps:=z.steps+1 }
def preS (b k:Int)(z:SR):SR:={ z with rows:=max b (k+1),bottom:=z.bottom++[k],below:=z.below++[k] }
def postS (z:SR):SR:={ z with bottom:=z.bottom.take (z.bottom.length-1),below:=z.below.take (z.below.length-1) }
def southR (at_:SR→Bool×SR)(i:Nat)(we:Int)(z:SR):Bool×SR :=
  if K.W≤i then layR K at_ i (z.below.getD (i % K.W) 0) we z
  else roundsR (preS z.rows) (fun k=>layR K at_ i k we) postS (fun z'=>{ z' with rows:=z.rows }) (nEach z.rows) 0 z
def preL (b k:Int)(z:SR):SR:={ z with cols:=max b (k+1),left:=z.left++[k] }
def postL (z:SR):SR:={ z with left:=z.left.take (z.left.length-1) }
def leftR (at_:SR→Bool×SR)(i:Nat)(z:SR):Bool×SR :=
  roundsR (preL z.cols) (fun k=>southR K at_ i k) postL (fun z'=>{ z' with cols:=z.cols }) (nEach z.cols) 0 z
def atR:Nat→SR→Bool×SR
  | 0,z=>(true,{ z with found:=⟨z.bottom,z.left,z.pieces⟩ })
  | n+1,z=>if (K.Cells.length-(n+1)) % K.W=0 then leftR K (atR n) (K.Cells.length-(n+1)) z else southR K (atR n) (K.Cells.length-(n+1)) z.west z
/-! That they agree. -/
structure RelS (i bl lf:Nat) (s:SI) (z:SR):Prop where
  st:z.steps=s.steps
  nf:z.full=false
  nb:s.broke=false
  pc:z.pieces=s.pieces
  lb:s.bottom.length=K.W
  ll:s.left.length=K.H
  ln:s.north.length=K.Cells.length
  le:s.east.length=K.Cells.length
  bo:z.bottom=s.bottom.take bl
  lo:z.left=s.left.take lf
  be:z.below.length=bl
  no:∀ j,j<i→i≤j+K.W→z.below[j % K.W]?=s.north[j]?
  we:0<i→z.west=s.east.getD (i-1) 0
structure SameS (i bl lf:Nat) (s s':SI):Prop where
  rows:s'.rows=s.rows
  cols:s'.cols=s.cols
  nb:s'.broke=false
  pc:s'.pieces=s.pieces
  lb:s'.bottom.length=K.W
  ll:s'.left.length=K.H
  ln:s'.north.length=K.Cells.length
  le:s'.east.length=K.Cells.length
  bo:s'.bottom.take bl=s.bottom.take bl
  lo:s'.left.take lf=s.left.take lf
  no:s'.north.take i=s.north.take i
  ea:s'.east.take i=s.east.take i
def Done (o:SI)(q:Bool×SR):Prop:=(o.broke=true∧q.1=false∧q.2.full=true)∨(o.broke=false∧q.1=true∧q.2.found=⟨o.bottom,o.left,o.pieces⟩)
structure OutS (i bl lf:Nat) (s:SI) (z:SR) (o:Bool×SI) (q:Bool×SR):Prop where
  st:q.2.steps=o.2.steps
  no:o.1=false→q.1=false∧q.2={ z with steps:=q.2.steps }∧SameS K i bl lf s o.2
  yes:o.1=true→Done o.2 q
def SimS (i bl lf:Nat)(f:SI→Bool×SI)(g:SR→Bool×SR):Prop:=∀ s z,RelS K i bl lf s z→z.rows=s.rows→z.cols=s.cols→OutS K i bl lf s z (f s) (g z)
theorem take_lt {α:Type}{xs ys:List α}{i j:Nat}(h:xs.take i=ys.take i)(hj:j<i):xs[j]?=ys[j]?:=by have:=congrArg (fun l=>l[j]?) h;simpa [List.getElem?_take,hj] using this
theorem take_less {α:Type}{xs ys:List α}{i j:Nat}(h:xs.take i=ys.take i)(hj:j≤i):xs.take j=ys.take j:=by have:=congrArg (List.take j) h;rwa [List.take_take,List.take_take,Nat.min_eq_left hj] at this
theorem RelS.same {K:SK}{i bl lf:Nat}{s s':SI}{z:SR}{n:Int}(h:RelS K i bl lf s z)(hs:SameS K i bl lf s s')(hn:n=s'.steps):RelS K i bl lf s' { z with steps:=n } where
  st:=hn
  nf:=h.nf
  nb:=hs.nb
  pc:=h.pc.trans hs.pc.symm
  lb:=hs.lb
  ll:=hs.ll
  ln:=hs.ln
  le:=hs.le
  bo:=h.bo.trans hs.bo.symm
  lo:=h.lo.trans hs.lo.symm
  be:=h.be
  no:=fun j hj hi=>(h.no j hj hi).trans (take_lt hs.no hj).symm
  we:=fun hi=>by have:=take_lt hs.ea (j:=i-1) (by omega);rw [List.getD_eq_getElem?_getD,this,← List.getD_eq_getElem?_getD];exact h.we hi
theorem SameS.trans {K:SK}{i bl lf:Nat}{s s' s'':SI}(h:SameS K i bl lf s s')(h':SameS K i bl lf s' s''):SameS K i bl lf s s'' :=
  ⟨h'.rows.trans h.rows,h'.cols.trans h.cols,h'.nb,h'.pc.trans h.pc,h'.lb,h'.ll,h'.ln,h'.le,h'.bo.trans h.bo,h'.lo.trans h.lo,h'.no.trans h.no,h'.ea.trans h.ea⟩
theorem rounds_sim {set:Int→SI→SI} {goI:Int→SI→Bool×SI} {pre:Int→SR→SR} {goR:Int→SR→Bool×SR} {post fin:SR→SR} {b:Int} (Inv:SI→SR→Prop)
    (hset:∀ n s,(set n s).steps=s.steps) (hst:∀ z,(post z).steps=z.steps∧(post z).full=z.full) (hfin:∀ z,(fin z).steps=z.steps∧(fin z).full=z.full)
    (hnf:∀ s z,Inv s z→z.full=false∧z.steps=s.steps)
    (hgo:∀ k s z,Inv s z→(goR k (pre k z)).2.steps=(goI k (set (max b (k+1)) s)).2.steps ∧
      ((goI k (set (max b (k+1)) s)).1=false→(goR k (pre k z)).1=false∧Inv (goI k (set (max b (k+1)) s)).2 (post (goR k (pre k z)).2)) ∧
      ((goI k (set (max b (k+1)) s)).1=true→Done (goI k (set (max b (k+1)) s)).2 (goR k (pre k z)))) :
    ∀ (f:Nat) (k:Int) (s:SI) (z:SR),Inv s z →
      (roundsR pre goR post fin f k z).2.steps=(eachI set goI b f k s).2.steps ∧
      ((eachI set goI b f k s).1=false→(roundsR pre goR post fin f k z).1=false∧∃ s0 z0,Inv s0 z0∧(eachI set goI b f k s).2=set b s0∧(roundsR pre goR post fin f k z).2=fin z0) ∧
      ((eachI set goI b f k s).1=true→Done (eachI set goI b f k s).2 (roundsR pre goR post fin f k z))
  | 0,k,s,z,hI=>by simp only [roundsR,eachI];exact ⟨by rw [(hfin z).1,hset];exact (hnf s z hI).2,fun _=>⟨trivial,s,z,hI,rfl,rfl⟩,fun h=>by cases h⟩
  | f + 1,k,s,z,hI=>by
    obtain ⟨h1,h2,h3⟩:=hgo k s z hI;simp only [roundsR,eachI,(hnf s z hI).1,Bool.false_eq_true,if_false];generalize goI k (set (max b (k+1)) s)=o at *;generalize goR k (pre k z)=q at *;cases hr:o.1 with
    | false=>obtain ⟨ht,hI'⟩:=h2 hr;rw [ht];exact rounds_sim Inv hset hst hfin hnf hgo f (k+1) o.2 (post q.2) hI'
    | true =>
      have hD:=h3 hr;simp only [if_true];rcases hD with ⟨d1,d2,d3⟩ | ⟨d1,d2,d3⟩
      · rw [d2];have e:roundsR pre goR post fin f (k+1) (post q.2)=(false,fin (post q.2)):=by
          cases f with
          | zero=>rfl
          | succ f=>simp only [roundsR];rw [(hst q.2).2,d3];rfl
        simp only [Bool.false_eq_true,if_false,e];exact ⟨by rw [(hfin _).1,(hst _).1];exact h1,fun h=>absurd (hr.symm.trans h) (by decide),fun _=>.inl ⟨d1,rfl,by rw [(hfin _).2,(hst _).2];exact d3⟩⟩
      · rw [d2];simp only [if_true];exact ⟨h1,fun h=>absurd (hr.symm.trans h) (by decide),fun _=>.inr ⟨d1,d2,d3⟩⟩
theorem getD_set_self {xs:List Int}{i:Nat}(h:i<xs.length)(v:Int):(xs.set i v).getD i 0=v:=by rw [List.getD_eq_getElem?_getD,List.getElem?_set_self h];rfl
theorem take_setE {α:Type}{xs:List α}{i j:Nat}{v:α}(h:j≤i):(xs.set i v).take j=xs.take j:=by rw [List.take_set,List.set_eq_of_length_le (by rw [List.length_take];omega)]
theorem set_set_getD {xs:List Int}{c:Nat}(v:Int)(h:c<xs.length):(xs.set c v).set c (xs.getD c 0)=xs:=by rw [List.set_set,List.getD_eq_getElem?_getD,List.getElem?_eq_getElem h];exact List.set_getElem_self h
theorem mod_far {i j W:Nat}(h1:j<i)(h2:i<j+W):i % W≠j % W:=fun e=>by
  have hW:0<W:=(by omega);have a:=Nat.div_add_mod i W;have b:=Nat.div_add_mod j W;have:i / W≠j / W:=fun e2=>by rw [e2,e] at a;omega
  have hlt:j / W<i / W:=by
    rcases Nat.lt_or_ge (j / W) (i / W) with h | h
    · exact h
    · have:W*(i / W)≤W*(j / W):=Nat.mul_le_mul_left _ h;omega
  have:W*(j / W+1)≤W*(i / W):=Nat.mul_le_mul_left _ hlt;rw [Nat.mul_add] at this;omega
theorem sim_take {cell:SI→Bool×SI}{at_:SR→Bool×SR}{i bl lf:Nat}(hi:i<K.Cells.length)(hb:i % K.W<bl)(p:Piece)(hc:SimS K (i+1) bl lf cell at_):SimS K i bl lf (takeI cell i p) (putR K at_ i p):=by
  intro s z h hr hcl;have h1:RelS K (i+1) bl lf { s with north:=s.north.set i p.North,east:=s.east.set i p.East } { z with below:=z.below.set (i % K.W) p.North,west:=p.East }:={
    st:=h.st,nf:=h.nf,nb:=h.nb,pc:=h.pc,lb:=h.lb,ll:=h.ll,bo:=h.bo,lo:=h.lo
    ln:=by simpa using h.ln
    le:=by simpa using h.le
    be:=by simpa using h.be
    no:=fun j hj hij=>by
      show (z.below.set (i % K.W) p.North)[j % K.W]?=(s.north.set i p.North)[j]?;by_cases e:j=i
      · subst e;rw [List.getElem?_set_self (by rw [h.be];exact hb),List.getElem?_set_self (by rw [h.ln];exact hi)]
      · have hji:j<i:=(by omega);rw [List.getElem?_set_ne (mod_far hji (by omega)),List.getElem?_set_ne (fun h=>e h.symm)];exact h.no j hji (by omega)
    we:=fun _=>by
      show p.East=(s.east.set i p.East).getD (i+1-1) 0;rw [Nat.add_sub_cancel,getD_set_self (by rw [h.le];exact hi)] }
  have ho:=hc _ _ h1 hr hcl;unfold takeI putR;generalize cell { s with north:=s.north.set i p.North,east:=s.east.set i p.East }=o at *;generalize at_ { z with below:=z.below.set (i % K.W) p.North,west:=p.East }=q at *;have hst:(backR (i % K.W) z q).2.steps=q.2.steps:=(by unfold backR;dsimp only;split<;>rfl);refine ⟨hst.trans ho.st,fun hh=>?_,fun hh=>?_⟩
  · obtain ⟨e0,e,hs⟩:=ho.no hh;refine ⟨e0,?_,⟨hs.rows,hs.cols,hs.nb,hs.pc,hs.lb,hs.ll,hs.ln,hs.le,hs.bo,hs.lo,(take_less hs.no (Nat.le_succ i)).trans (take_setE (Nat.le_refl i)),(take_less hs.ea (Nat.le_succ i)).trans (take_setE (Nat.le_refl i))⟩⟩;rw [hst];unfold backR;rw [e0];simp only [Bool.false_eq_true,if_false];rw [e];simp only;rw [set_set_getD _ (by rw [h.be];exact hb)]
  · rcases ho.yes hh with ⟨d1,d2,d3⟩ | ⟨d1,d2,d3⟩
    · exact .inl ⟨d1,d2,by unfold backR;rw [d2];exact d3⟩
    · exact .inr ⟨d1,d2,by unfold backR;rw [d2];exact d3⟩
def KeptS (i bl lf:Nat)(s0:SI)(z0:SR)(s:SI)(z:SR):Prop :=
  RelS K i bl lf s z∧SameS K i bl lf s0 { s with rows:=s0.rows,cols:=s0.cols }∧∃ n r c,z={ z0 with steps:=n,rows:=r,cols:=c }
theorem sim_try {cell:SI→Bool×SI}{at_:SR→Bool×SR}{i bl lf:Nat}(p:Piece)(hc:SimS K i bl lf (takeI cell i p) (putR K at_ i p)){s0:SI}{z0:SR}{r c:Int}{s:SI}{z:SR}(h:KeptS K i bl lf s0 z0 s z)(hr:s.rows=max s0.rows (r+1)) :
    let o:=tryI cell i p (setCols (max s0.cols (c+1)) s)
    let q:=putR K at_ i p (preN s0.rows s0.cols r c p z)
    q.2.steps=o.2.steps∧(o.1=false→q.1=false∧KeptS K i bl lf s0 z0 o.2 (postN q.2)∧o.2.rows=max s0.rows (r+1))∧(o.1=true→Done o.2 q):=by
  obtain ⟨hR,hS,m,r',c',rfl⟩:=h;have hpc:s.pieces=z0.pieces:=hR.pc.symm;have hR1:RelS K i bl lf { setCols (max s0.cols (c+1)) s with pieces:=s.pieces++[p] } (preN s0.rows s0.cols r c p { z0 with steps:=m,rows:=r',cols:=c' }) :=
    ⟨hR.st,hR.nf,hR.nb,by rw [hpc];rfl,hR.lb,hR.ll,hR.ln,hR.le,hR.bo,hR.lo,hR.be,hR.no,hR.we⟩
  have ho:=hc _ _ hR1 hr.symm rfl;unfold tryI;show _∧_∧_;have e0:(setCols (max s0.cols (c+1)) s).pieces=s.pieces:=rfl;rw [e0];generalize putR K at_ i p (preN s0.rows s0.cols r c p { z0 with steps:=m,rows:=r',cols:=c' })=q at *;generalize takeI cell i p { setCols (max s0.cols (c+1)) s with pieces:=s.pieces++[p] }=o at *;have hst:(cutI s.pieces.length o).2.steps=o.2.steps:=(by unfold cutI;dsimp only;split<;>rfl);refine ⟨ho.st.trans hst.symm,fun hh=>?_,fun hh=>?_⟩
  · have hh':o.1=false:=hh;obtain ⟨e1,e2,hs⟩:=ho.no hh';have e3:(cutI s.pieces.length o).2={ o.2 with pieces:=s.pieces }:=(by unfold cutI;rw [hh'];simp only [Bool.false_eq_true,if_false];rw [hs.pc];simp);have e4:postN q.2={ z0 with steps:=q.2.steps,rows:=max s0.rows (r+1),cols:=max s0.cols (c+1) }:=(by rw [e2];simp [postN,preN]);rw [e3,e4];refine ⟨e1,⟨?_,?_,_,_,_,rfl⟩,hs.rows.trans hr⟩
    · have hb:=hR.same (s':={ o.2 with pieces:=s.pieces,rows:=s.rows,cols:=s.cols }) (n:=q.2.steps) ⟨rfl,rfl,hs.nb,rfl,hs.lb,hs.ll,hs.ln,hs.le,hs.bo,hs.lo,hs.no,hs.ea⟩ ho.st;exact ⟨hb.st,hb.nf,hb.nb,hb.pc,hb.lb,hb.ll,hb.ln,hb.le,hb.bo,hb.lo,hb.be,hb.no,hb.we⟩
    · exact ⟨rfl,rfl,hs.nb,hS.pc,hs.lb,hs.ll,hs.ln,hs.le,hs.bo.trans hS.bo,hs.lo.trans hS.lo,hs.no.trans hS.no,hs.ea.trans hS.ea⟩
  · have hh':o.1=true:=hh;have e3:(cutI s.pieces.length o).2=o.2:=(by unfold cutI;rw [hh'];rfl);rw [e3];exact ho.yes hh'
theorem sim_new {cell:SI→Bool×SI} {at_:SR→Bool×SR} {i bl lf:Nat} (so we:Int) (hc:∀ p,SimS K i bl lf (takeI cell i p) (putR K at_ i p)):SimS K i bl lf (newI K cell i so we) (newR K at_ i so we):=by
  intro s0 z0 h0 hr0 hc0;unfold newI newR rowsI;rw [hr0,hc0];have hs0:SameS K i bl lf s0 s0:=⟨rfl,rfl,h0.nb,rfl,h0.lb,h0.ll,h0.ln,h0.le,rfl,rfl,rfl,rfl⟩
  have h00:KeptS K i bl lf s0 z0 s0 z0:=⟨h0,hs0,_,_,_,rfl⟩
  obtain ⟨k1,k2,k3⟩:=rounds_sim (set:=setRows) (goI:=fun n=>colsI (fun e=>tryI cell i ⟨K.Cells.getD i 0,n,e,so,we⟩)) (pre:=fun _ z=>z)
    (goR:=fun n=>roundsR (fun e z=>preN s0.rows s0.cols n e ⟨K.Cells.getD i 0,n,e,so,we⟩ z) (fun e=>putR K at_ i ⟨K.Cells.getD i 0,n,e,so,we⟩) postN id (nEach s0.cols) 0) (post:=id) (fin:=fun z=>{ z with rows:=s0.rows,cols:=s0.cols }) (b:=s0.rows)
    (fun s z=>KeptS K i bl lf s0 z0 s z∧s.cols=s0.cols) (fun _ _=>rfl) (fun _=>⟨rfl,rfl⟩) (fun _=>⟨rfl,rfl⟩) (fun s z h=>⟨h.1.1.nf,h.1.1.st⟩) (by
      rintro n s z ⟨hK,hcol⟩;unfold colsI;rw [show (setRows (max s0.rows (n+1)) s).cols=s0.cols from hcol];have hK1:KeptS K i bl lf s0 z0 (setRows (max s0.rows (n+1)) s) z:=by obtain ⟨hb,hS,hz⟩:=hK;exact ⟨⟨hb.st,hb.nf,hb.nb,hb.pc,hb.lb,hb.ll,hb.ln,hb.le,hb.bo,hb.lo,hb.be,hb.no,hb.we⟩,hS,hz⟩
      obtain ⟨j1,j2,j3⟩:=rounds_sim (set:=setCols) (goI:=fun e=>tryI cell i ⟨K.Cells.getD i 0,n,e,so,we⟩) (pre:=fun e z=>preN s0.rows s0.cols n e ⟨K.Cells.getD i 0,n,e,so,we⟩ z) (goR:=fun e=>putR K at_ i ⟨K.Cells.getD i 0,n,e,so,we⟩) (post:=postN) (fin:=id) (b:=s0.cols)
        (fun s z=>KeptS K i bl lf s0 z0 s z∧s.rows=max s0.rows (n+1)) (fun _ _=>rfl) (fun _=>⟨rfl,rfl⟩) (fun _=>⟨rfl,rfl⟩) (fun s z h=>⟨h.1.1.nf,h.1.1.st⟩) (fun e s z h=>sim_try K _ (hc _) h.1 h.2) (nEach s0.cols) 0 _ z ⟨hK1,rfl⟩
      refine ⟨j1,fun hh=>?_,j3⟩;obtain ⟨q1,s1,z1,⟨q2,q3⟩,q4,q5⟩:=j2 hh;refine ⟨q1,?_,by rw [q4];rfl⟩;show KeptS K i bl lf s0 z0 _ (roundsR _ _ _ _ _ _ _).2;rw [q4,q5];obtain ⟨hb,hS,hz⟩:=q2;exact ⟨⟨hb.st,hb.nf,hb.nb,hb.pc,hb.lb,hb.ll,hb.ln,hb.le,hb.bo,hb.lo,hb.be,hb.no,hb.we⟩,hS,hz⟩) (nEach s0.rows) 0 s0 z0 ⟨h00,rfl⟩
  refine ⟨k1,fun hh=>?_,k3⟩;obtain ⟨q1,s1,z1,⟨⟨q2,q2',n,r,c,rfl⟩,q3⟩,q4,q5⟩:=k2 hh;refine ⟨q1,?_,?_⟩
  · rw [q5];simp only;rw [← hr0,← hc0]
  · rw [q4];exact ⟨rfl,q3,q2'.nb,q2'.pc,q2'.lb,q2'.ll,q2'.ln,q2'.le,q2'.bo,q2'.lo,q2'.no,q2'.ea⟩
theorem sim_step {cell:SI→Bool×SI}{at_:SR→Bool×SR}{i bl lf:Nat}(hc:∀ p,SimS K i bl lf (takeI cell i p) (putR K at_ i p))(s:SI)(z:SR)(h:RelS K i bl lf s z)(hr:z.rows=s.rows)(hcl:z.cols=s.cols)(so we:Int)(hso:so=southI K i s)(hwe:we=westI K i s) :
    OutS K i bl lf s z (stepI K cell i s) (layR K at_ i so we z):=by
  unfold stepI layR;have hpc:=h.pc;have hfe:z.pieces.find? (isInl so we)=s.pieces.find? (isInl so we):=by rw [hpc]
  have hln:(z.pieces.length:Int)=(s.pieces.length:Int):=(by rw [hpc]);have hst:=h.st;rw [← hso,← hwe,show z.steps=s.steps from hst];by_cases hb:K.budget≤s.steps
  · rw [if_pos hb,if_pos hb];exact ⟨rfl,fun hh=>Bool.noConfusion hh,fun _=>.inl ⟨rfl,rfl,rfl⟩⟩
  · rw [if_neg hb,if_neg hb];have h1:RelS K i bl lf { s with steps:=s.steps+1 } { z with steps:=s.steps+1 }:=⟨rfl,h.nf,h.nb,h.pc,h.lb,h.ll,h.ln,h.le,h.bo,h.lo,h.be,h.no,h.we⟩
    suffices ho:OutS K i bl lf { s with steps:=s.steps+1 } { z with steps:=s.steps+1 } (layI K cell i so we { s with steps:=s.steps+1 }) (fitR K at_ i so we { z with steps:=s.steps+1 }) from
      ⟨ho.st,fun hh=>⟨(ho.no hh).1,by rw [(ho.no hh).2.1],⟨(ho.no hh).2.2.rows,(ho.no hh).2.2.cols,(ho.no hh).2.2.nb,(ho.no hh).2.2.pc,(ho.no hh).2.2.lb,(ho.no hh).2.2.ll,(ho.no hh).2.2.ln,(ho.no hh).2.2.le,(ho.no hh).2.2.bo,(ho.no hh).2.2.lo,(ho.no hh).2.2.no,(ho.no hh).2.2.ea⟩⟩,ho.yes⟩
    have hid:∀ (s:SI) (z:SR),RelS K i bl lf s z→OutS K i bl lf s z (false,s) (false,z):=fun s z h=>⟨h.st,fun _=>⟨rfl,rfl,⟨rfl,rfl,h.nb,rfl,h.lb,h.ll,h.ln,h.le,rfl,rfl,rfl,rfl⟩⟩,fun hh=>Bool.noConfusion hh⟩
    unfold layI fitR;simp only;rw [hfe,hln];cases s.pieces.find? (isInl so we) with
    | some p =>
      simp only;by_cases hp:p.Color=K.Cells.getD i 0
      · rw [if_pos hp,if_pos hp];exact hc p _ _ h1 hr hcl
      · rw [if_neg hp,if_neg hp];exact hid _ _ h1
    | none =>
      simp only;by_cases hm:K.most≤(s.pieces.length:Int)
      · rw [if_pos hm,if_pos hm];exact hid _ _ h1
      · rw [if_neg hm,if_neg hm];exact sim_new K so we hc _ _ h1 hr hcl
theorem take_set_snoc {α:Type}{xs:List α}{i:Nat}{v:α}(h:i<xs.length):(xs.set i v).take (i+1)=xs.take i++[v]:=by rw [List.take_succ_eq_append_getElem (by simpa using h),take_setE (Nat.le_refl i),List.getElem_set_self]
theorem westI_same {K:SK}{i bl lf:Nat}{s0 s s':SI}(h:SameS K i bl lf s0 s)(hl:i / K.W<lf)(h1:s'.left=s.left)(h2:s'.east=s.east):westI K i s'=westI K i s0:=by
  unfold westI;rw [h1,h2];split
  · rw [List.getD_eq_getElem?_getD,List.getD_eq_getElem?_getD,take_lt h.lo hl]
  · rename_i hm;have:i≠0:=fun e=>hm (by rw [e];exact Nat.zero_mod _);rw [List.getD_eq_getElem?_getD,List.getD_eq_getElem?_getD,take_lt h.ea (by omega)]
theorem sim_bottom {cell:SI→Bool×SI} {at_:SR→Bool×SR} {i:Nat} (hW:0<K.W) (hi:i<K.Cells.length) (hc:∀ p,SimS K i (min (i+1) K.W) (i / K.W+1) (takeI cell i p) (putR K at_ i p)) (s0:SI) (z0:SR) (h0:RelS K i (min i K.W) (i / K.W+1) s0 z0) (hr0:z0.rows=s0.rows) (hc0:z0.cols=s0.cols) (we:Int) (hwe:we=westI K i s0) :
    OutS K i (min i K.W) (i / K.W+1) s0 z0 (bottomI K cell i s0) (southR K at_ i we z0):=by
  unfold bottomI southR;by_cases hwi:K.W≤i
  · rw [if_pos hwi,if_pos hwi];have e:min i K.W=min (i+1) K.W:=by omega
    rw [e] at h0 ⊢;refine sim_step K hc s0 z0 h0 hr0 hc0 _ we ?_ hwe;unfold southI;rw [if_neg (by omega)];have:=h0.no (i-K.W) (by omega) (by omega);rw [List.getD_eq_getElem?_getD,List.getD_eq_getElem?_getD,← this,Nat.mod_eq_sub_mod hwi]
  · rw [if_neg hwi,if_neg hwi];have e1:min i K.W=i:=by omega
    have e2:min (i+1) K.W=i+1:=(by omega);rw [e1] at h0 ⊢;rw [e2] at hc;unfold rowsI;rw [hr0];have hs0:SameS K i i (i / K.W+1) s0 s0:=⟨rfl,rfl,h0.nb,rfl,h0.lb,h0.ll,h0.ln,h0.le,rfl,rfl,rfl,rfl⟩
    obtain ⟨k1,k2,k3⟩:=rounds_sim (set:=setRows) (goI:=fun n s=>stepI K cell i (botI i n s)) (pre:=preS s0.rows) (goR:=fun k=>layR K at_ i k we) (post:=postS) (fin:=fun z'=>{ z' with rows:=s0.rows }) (b:=s0.rows)
      (fun s z=>KeptS K i i (i / K.W+1) s0 z0 s z∧s.cols=s0.cols∧z.cols=s0.cols) (fun _ _=>rfl) (fun _=>⟨rfl,rfl⟩) (fun _=>⟨rfl,rfl⟩) (fun s z h=>⟨h.1.1.nf,h.1.1.st⟩) (by
        rintro k s z ⟨⟨hR,hS,m,r,c,rfl⟩,hcol,hcz⟩;have hR1:RelS K i (i+1) (i / K.W+1) (botI i k (setRows (max s0.rows (k+1)) s)) (preS s0.rows k { z0 with steps:=m,rows:=r,cols:=c }):={
          st:=hR.st,nf:=hR.nf,nb:=hR.nb,pc:=hR.pc,ll:=hR.ll,ln:=hR.ln,le:=hR.le,lo:=hR.lo,we:=hR.we
          lb:=(List.length_set ..).trans hR.lb
          bo:=by show z0.bottom++[k]=(s.bottom.set i k).take (i+1);rw [take_set_snoc (by rw [hR.lb];omega),← hR.bo]
          be:=by show (z0.below++[k]).length=i+1;have:=hR.be;simp only at this;simp [this]
          no:=fun j hj hij=>by
            show (z0.below++[k])[j % K.W]?=s.north[j]?;have hl:z0.below.length=i:=hR.be;have hm:j % K.W=j:=Nat.mod_eq_of_lt (by omega);rw [List.getElem?_append_left (by rw [hm,hl];exact hj)];exact hR.no j hj hij }
        have hso:k=southI K i (botI i k (setRows (max s0.rows (k+1)) s)):=(by unfold southI;rw [if_pos (by omega)];exact (getD_set_self (by show i<s.bottom.length;rw [hR.lb];omega) k).symm);have hw:we=westI K i (botI i k (setRows (max s0.rows (k+1)) s)):=(by rw [hwe];exact (westI_same hS (by omega) rfl rfl).symm);have ho:=sim_step K hc _ _ hR1 rfl (by rw [show (preS s0.rows k { z0 with steps:=m,rows:=r,cols:=c }).cols=c from rfl];exact hcz.trans hcol.symm) k we hso hw;refine ⟨ho.st,fun hh=>?_,ho.yes⟩;obtain ⟨q1,q2,q3⟩:=ho.no hh;have e4:postS (layR K at_ i k we (preS s0.rows k { z0 with steps:=m,rows:=r,cols:=c })).2={ z0 with steps:=(layR K at_ i k we (preS s0.rows k { z0 with steps:=m,rows:=r,cols:=c })).2.steps,rows:=max s0.rows (k+1),cols:=c }:=(by rw [q2];simp [postS,preS]);rw [e4];have hbb:(stepI K cell i (botI i k (setRows (max s0.rows (k+1)) s))).2.bottom.take i=s.bottom.take i:=(take_less q3.bo (Nat.le_succ i)).trans (take_setE (Nat.le_refl i));have hst:=ho.st;generalize stepI K cell i (botI i k (setRows (max s0.rows (k+1)) s))=o at *;refine ⟨q1,⟨?_,?_,_,_,_,rfl⟩,q3.cols.trans hcol,hcz⟩
        · have hb:=hR.same (s':={ o.2 with rows:=s.rows,cols:=s.cols }) (n:=(layR K at_ i k we (preS s0.rows k { z0 with steps:=m,rows:=r,cols:=c })).2.steps) ⟨rfl,rfl,q3.nb,q3.pc,q3.lb,q3.ll,q3.ln,q3.le,hbb,q3.lo,q3.no,q3.ea⟩ hst;exact ⟨hb.st,hb.nf,hb.nb,hb.pc,hb.lb,hb.ll,hb.ln,hb.le,hb.bo,hb.lo,hb.be,hb.no,hb.we⟩
        · exact ⟨rfl,rfl,q3.nb,q3.pc.trans hS.pc,q3.lb,q3.ll,q3.ln,q3.le,hbb.trans hS.bo,q3.lo.trans hS.lo,q3.no.trans hS.no,q3.ea.trans hS.ea⟩) (nEach s0.rows) 0 s0 z0 ⟨⟨h0,hs0,_,_,_,rfl⟩,rfl,hc0⟩
    refine ⟨k1,fun hh=>?_,k3⟩;obtain ⟨q1,s1,z1,⟨⟨q2,q2',n,r,c,rfl⟩,q3,q3'⟩,q4,q5⟩:=k2 hh;refine ⟨q1,?_,?_⟩
    · rw [q5];simp only at q3' ⊢;rw [← hr0,q3',← hc0]
    · rw [q4];exact ⟨rfl,q3,q2'.nb,q2'.pc,q2'.lb,q2'.ll,q2'.ln,q2'.le,q2'.bo,q2'.lo,q2'.no,q2'.ea⟩
theorem sim_left {cell:SI→Bool×SI} {at_:SR→Bool×SR} {i:Nat} (hW:0<K.W) (hH:i / K.W<K.H) (hi:i<K.Cells.length) (hm:i % K.W=0) (hc:∀ p,SimS K i (min (i+1) K.W) (i / K.W+1) (takeI cell i p) (putR K at_ i p)) :
    SimS K i (min i K.W) (i / K.W) (fun s=>colsI (fun k s=>bottomI K cell i (lefI (i / K.W) k s)) s) (leftR K at_ i):=by
  intro s0 z0 h0 hr0 hc0;unfold leftR colsI;rw [hc0];have hs0:SameS K i (min i K.W) (i / K.W) s0 s0:=⟨rfl,rfl,h0.nb,rfl,h0.lb,h0.ll,h0.ln,h0.le,rfl,rfl,rfl,rfl⟩
  obtain ⟨k1,k2,k3⟩:=rounds_sim (set:=setCols) (goI:=fun k s=>bottomI K cell i (lefI (i / K.W) k s)) (pre:=preL s0.cols) (goR:=fun k=>southR K at_ i k) (post:=postL) (fin:=fun z'=>{ z' with cols:=s0.cols }) (b:=s0.cols)
    (fun s z=>KeptS K i (min i K.W) (i / K.W) s0 z0 s z∧s.rows=s0.rows∧z.rows=s0.rows) (fun _ _=>rfl) (fun _=>⟨rfl,rfl⟩) (fun _=>⟨rfl,rfl⟩) (fun s z h=>⟨h.1.1.nf,h.1.1.st⟩) (by
      rintro k s z ⟨⟨hR,hS,m,r,c,rfl⟩,hrow,hrz⟩;have hR1:RelS K i (min i K.W) (i / K.W+1) (lefI (i / K.W) k (setCols (max s0.cols (k+1)) s)) (preL s0.cols k { z0 with steps:=m,rows:=r,cols:=c }):={
        st:=hR.st,nf:=hR.nf,nb:=hR.nb,pc:=hR.pc,lb:=hR.lb,ln:=hR.ln,le:=hR.le,bo:=hR.bo,we:=hR.we,be:=hR.be,no:=hR.no
        ll:=(List.length_set ..).trans hR.ll
        lo:=by
          show z0.left++[k]=(s.left.set (i / K.W) k).take (i / K.W+1);rw [take_set_snoc (by rw [hR.ll];exact hH),← hR.lo] }
      have hw:k=westI K i (lefI (i / K.W) k (setCols (max s0.cols (k+1)) s)):=(by unfold westI;rw [if_pos hm];exact (getD_set_self (by show i / K.W<s.left.length;rw [hR.ll];exact hH) k).symm);have ho:=sim_bottom K hW hi hc _ _ hR1 (by rw [show (preL s0.cols k { z0 with steps:=m,rows:=r,cols:=c }).rows=r from rfl];exact hrz.trans hrow.symm) rfl k hw;refine ⟨ho.st,fun hh=>?_,ho.yes⟩;obtain ⟨q1,q2,q3⟩:=ho.no hh;have e4:postL (southR K at_ i k (preL s0.cols k { z0 with steps:=m,rows:=r,cols:=c })).2={ z0 with steps:=(southR K at_ i k (preL s0.cols k { z0 with steps:=m,rows:=r,cols:=c })).2.steps,rows:=r,cols:=max s0.cols (k+1) }:=(by rw [q2];simp [postL,preL]);rw [e4];have hbb:(bottomI K cell i (lefI (i / K.W) k (setCols (max s0.cols (k+1)) s))).2.left.take (i / K.W)=s.left.take (i / K.W):=(take_less q3.lo (Nat.le_succ _)).trans (take_setE (Nat.le_refl _));have hst:=ho.st;generalize bottomI K cell i (lefI (i / K.W) k (setCols (max s0.cols (k+1)) s))=o at *;refine ⟨q1,⟨?_,?_,_,_,_,rfl⟩,q3.rows.trans hrow,hrz⟩
      · have hb:=hR.same (s':={ o.2 with rows:=s.rows,cols:=s.cols }) (n:=(southR K at_ i k (preL s0.cols k { z0 with steps:=m,rows:=r,cols:=c })).2.steps) ⟨rfl,rfl,q3.nb,q3.pc,q3.lb,q3.ll,q3.ln,q3.le,q3.bo,hbb,q3.no,q3.ea⟩ hst;exact ⟨hb.st,hb.nf,hb.nb,hb.pc,hb.lb,hb.ll,hb.ln,hb.le,hb.bo,hb.lo,hb.be,hb.no,hb.we⟩
      · exact ⟨rfl,rfl,q3.nb,q3.pc.trans hS.pc,q3.lb,q3.ll,q3.ln,q3.le,q3.bo.trans hS.bo,hbb.trans hS.lo,q3.no.trans hS.no,q3.ea.trans hS.ea⟩) (nEach s0.cols) 0 s0 z0 ⟨⟨h0,hs0,_,_,_,rfl⟩,rfl,hr0⟩
  refine ⟨k1,fun hh=>?_,k3⟩;obtain ⟨q1,s1,z1,⟨⟨q2,q2',n,r,c,rfl⟩,q3,q3'⟩,q4,q5⟩:=k2 hh;refine ⟨q1,?_,?_⟩
  · rw [q5];simp only at q3' ⊢;rw [← hc0,q3',← hr0]
  · rw [q4];exact ⟨q3,rfl,q2'.nb,q2'.pc,q2'.lb,q2'.ll,q2'.ln,q2'.le,q2'.bo,q2'.lo,q2'.no,q2'.ea⟩
theorem ceil_add {i W:Nat}(hW:0<W):(i+1+W-1) / W=i / W+1:=by rw [show i+1+W-1=i+W by omega,Nat.add_div_right _ hW]
theorem sim_cell (hW:0<K.W)(hH:0<K.H)(hN:K.Cells.length=K.H*K.W):∀ n,n≤K.Cells.length→SimS K (K.Cells.length-n) (min (K.Cells.length-n) K.W) ((K.Cells.length-n+K.W-1) / K.W) (cellI K n) (atR K n)
  | 0,_=>by
    intro s z h hr hc;refine ⟨h.st,fun hh=>Bool.noConfusion hh,fun _=>.inr ⟨h.nb,rfl,?_⟩⟩;have hWN:K.W≤K.Cells.length:=by rw [hN];exact Nat.le_mul_of_pos_left _ hH
    have hl:K.H≤(K.Cells.length-0+K.W-1) / K.W:=(by rw [Nat.le_div_iff_mul_le hW,hN];omega);show (⟨z.bottom,z.left,z.pieces⟩:Design)=⟨s.bottom,s.left,s.pieces⟩
    rw [h.bo,h.lo,h.pc,List.take_of_length_le (by rw [h.lb];omega),List.take_of_length_le (by rw [h.ll];exact hl)]
  | n + 1,hn=>by
    have ih:=sim_cell hW hH hN n (by omega);have e1:K.Cells.length-n=K.Cells.length-(n+1)+1:=(by omega);have hi:K.Cells.length-(n+1)<K.Cells.length:=(by omega);have hiH:(K.Cells.length-(n+1)) / K.W<K.H:=(by rw [Nat.div_lt_iff_lt_mul hW,← hN];exact hi);rw [e1] at ih;generalize hI:K.Cells.length-(n+1)=i at *;rw [ceil_add hW] at ih;have hb:i % K.W<min (i+1) K.W:=(by have:=Nat.mod_lt i hW;have:=Nat.mod_le i K.W;omega);have hc:=fun p=>sim_take K hi hb p ih;intro s z h hr hcl;unfold cellI atR;rw [hI];by_cases hm:i % K.W=0
    · rw [if_pos hm,if_pos hm];have e2:(i+K.W-1) / K.W=i / K.W:=by have hd:=Nat.div_add_mod i K.W;rw [hm,Nat.add_zero] at hd;generalize i / K.W=q at *;rw [← hd,show K.W*q+K.W-1=K.W-1+K.W*q by omega,Nat.add_mul_div_left _ _ hW,Nat.div_eq_of_lt (by omega),Nat.zero_add]
      rw [e2] at h ⊢;exact sim_left K hW hiH hi hm hc s z h hr hcl
    · rw [if_neg hm,if_neg hm];have e2:(i+K.W-1) / K.W=i / K.W+1:=by have hd:=Nat.div_add_mod i K.W;have hlt:=Nat.mod_lt i hW;generalize i / K.W=q at *;generalize i % K.W=r at *;rw [← hd,show K.W*q+r+K.W-1=(r-1)+K.W*q+K.W by omega,Nat.add_div_right _ hW,Nat.add_mul_div_left _ _ hW,Nat.div_eq_of_lt (by omega),Nat.zero_add]
      rw [e2] at h ⊢;refine sim_bottom K hW hi hc s z h hr hcl z.west ?_;unfold westI;rw [if_neg hm];exact h.we (Nat.pos_of_ne_zero fun e=>hm (by rw [e];exact Nat.zero_mod _))
end
/-! Bounds. -/
def Glu (x:Int):Prop:=0≤x∧x≤120
def okPiece (p:Piece):Prop:=(0≤p.Color∧p.Color≤5)∧Glu p.North∧Glu p.East∧Glu p.South∧Glu p.West
structure OkK (K:SK):Prop where
  w:0<K.W∧K.W≤10
  h:0<K.H∧K.H≤10
  n:K.Cells.length=K.H*K.W
  c:∀ x,x∈K.Cells→0≤x∧x≤5
  m:0≤K.most∧K.most≤100
  b:0≤K.budget∧K.budget≤20000
structure OkI (K:SK) (s:SI):Prop where
  st:0≤s.steps∧s.steps≤K.budget
  ro:Glu s.rows
  co:Glu s.cols
  lb:s.bottom.length=K.W
  ll:s.left.length=K.H
  ln:s.north.length=K.Cells.length
  le:s.east.length=K.Cells.length
  lp:(s.pieces.length:Int)≤K.most
  bo:∀ x,x∈s.bottom→Glu x
  lo:∀ x,x∈s.left→Glu x
  no:∀ x,x∈s.north→Glu x
  ea:∀ x,x∈s.east→Glu x
  pi:∀ p,p∈s.pieces→okPiece p
theorem glu_set {xs:List Int}{i:Nat}{v:Int}(h:∀ x,x∈xs→Glu x)(hv:Glu v):∀ x,x∈xs.set i v→Glu x:=fun x hx=>by
  rcases List.mem_or_eq_of_mem_set hx with h1 | rfl
  · exact h x h1
  · exact hv
theorem glu_getD {xs:List Int}(i:Nat)(h:∀ x,x∈xs→Glu x):Glu (xs.getD i 0):=by
  rw [List.getD_eq_getElem?_getD];cases hx:xs[i]? with
  | none=>exact ⟨by simp,by simp⟩
  | some x=>exact h x (List.mem_of_getElem? hx)
theorem glu_max {b k:Int}(hb:Glu b)(h0:0≤k)(h1:k≤119):Glu (max b (k+1)):=by unfold Glu at *;omega
def OutP (P Q:SI→Prop)(o:Bool×SI):Prop:=(o.1=false→P o.2)∧(o.1=true→Q o.2)
theorem eachI_ok {P Q:SI→Prop}{set:Int→SI→SI}{go:Int→SI→Bool×SI}{b:Int}(hset:∀ n s,Glu n→P s→P (set n s))(hb:Glu b)(hgo:∀ k s,0≤k→k≤119→P s→OutP P Q (go k s)):∀ (f:Nat) (k:Int) (s:SI),0≤k→k+f≤min b 119+1→P s→OutP P Q (eachI set go b f k s)
  | 0,k,s,_,_,h=>⟨fun _=>hset _ _ hb h,fun hh=>Bool.noConfusion hh⟩
  | f+1,k,s,h0,h1,h=>by
    have hk:k≤119:=(by omega);have hp:=hgo k _ h0 hk (hset _ _ (glu_max hb h0 hk) h);unfold eachI;cases hr:(go k (set (max b (k+1)) s)).1 with
    | true=>rw [if_pos rfl];exact hp
    | false=>rw [if_neg (by decide)];exact eachI_ok hset hb hgo f (k+1) _ (by omega) (by omega) (hp.1 hr)
theorem nEach_le {b:Int}(h:Glu b):(0:Int)+(nEach b:Nat)≤min b 119+1:=by unfold nEach Glu at *;omega
variable {K:SK}
theorem OkI.rows {n:Int}{s:SI}(h:OkI K s)(hn:Glu n):OkI K (setRows n s):=⟨h.st,hn,h.co,h.lb,h.ll,h.ln,h.le,h.lp,h.bo,h.lo,h.no,h.ea,h.pi⟩
theorem OkI.cols {n:Int}{s:SI}(h:OkI K s)(hn:Glu n):OkI K (setCols n s):=⟨h.st,h.ro,hn,h.lb,h.ll,h.ln,h.le,h.lp,h.bo,h.lo,h.no,h.ea,h.pi⟩
theorem rowsI_ok {P Q:SI→Prop}{go:Int→SI→Bool×SI}{s:SI}(hset:∀ n s,Glu n→P s→P (setRows n s))(hr:Glu s.rows)(h:P s)(hgo:∀ k s,0≤k→k≤119→P s→OutP P Q (go k s)):OutP P Q (rowsI go s) :=
  eachI_ok hset hr hgo _ _ _ (Int.le_refl _) (nEach_le hr) h
theorem colsI_ok {P Q:SI→Prop}{go:Int→SI→Bool×SI}{s:SI}(hset:∀ n s,Glu n→P s→P (setCols n s))(hr:Glu s.cols)(h:P s)(hgo:∀ k s,0≤k→k≤119→P s→OutP P Q (go k s)):OutP P Q (colsI go s) :=
  eachI_ok hset hr hgo _ _ _ (Int.le_refl _) (nEach_le hr) h
theorem OutP.both {P:SI→Prop}{o:Bool×SI}(h:OutP P P o):P o.2:=by
  cases hr:o.1 with
  | false=>exact h.1 hr
  | true=>exact h.2 hr
theorem OutP.of {P:SI→Prop}{o:Bool×SI}(h:P o.2):OutP P P o:=⟨fun _=>h,fun _=>h⟩
def OkF (K:SK)(f:SI→Bool×SI):Prop:=∀ s,OkI K s→OkI K (f s).2
theorem OkI.take {p:Piece}{s:SI}(i:Nat)(h:OkI K s)(hp:okPiece p):OkI K { s with north:=s.north.set i p.North,east:=s.east.set i p.East } :=
  ⟨h.st,h.ro,h.co,h.lb,h.ll,(List.length_set ..).trans h.ln,(List.length_set ..).trans h.le,h.lp,h.bo,h.lo,glu_set h.no hp.2.1,glu_set h.ea hp.2.2.1,h.pi⟩
theorem OkI.add {p:Piece}{s:SI}(h:OkI K s)(hp:okPiece p)(hl:(s.pieces.length:Int)<K.most):OkI K { s with pieces:=s.pieces++[p] } :=
  ⟨h.st,h.ro,h.co,h.lb,h.ll,h.ln,h.le,by simp only [List.length_append,List.length_cons,List.length_nil];omega,h.bo,h.lo,h.no,h.ea,fun q hq=>by
    rcases List.mem_append.1 hq with hq | hq
    · exact h.pi q hq
    · rw [List.mem_singleton.1 hq];exact hp⟩
theorem OkI.cut {s:SI}(n:Nat)(h:OkI K s):OkI K { s with pieces:=s.pieces.take n } :=
  ⟨h.st,h.ro,h.co,h.lb,h.ll,h.ln,h.le,by have:=h.lp;simp only [List.length_take];omega,h.bo,h.lo,h.no,h.ea,fun q hq=>h.pi q (List.mem_of_mem_take hq)⟩
theorem OkI.step {s:SI}(h:OkI K s)(hb:¬ K.budget≤s.steps):OkI K { s with steps:=s.steps+1 }:=⟨by have:=h.st;dsimp only;omega,h.ro,h.co,h.lb,h.ll,h.ln,h.le,h.lp,h.bo,h.lo,h.no,h.ea,h.pi⟩
theorem OkI.bot {s:SI}(i:Nat){k:Int}(h:OkI K s)(hk:Glu k):OkI K (botI i k s):=⟨h.st,h.ro,h.co,(List.length_set ..).trans h.lb,h.ll,h.ln,h.le,h.lp,glu_set h.bo hk,h.lo,h.no,h.ea,h.pi⟩
theorem OkI.lef {s:SI}(i:Nat){k:Int}(h:OkI K s)(hk:Glu k):OkI K (lefI i k s):=⟨h.st,h.ro,h.co,h.lb,(List.length_set ..).trans h.ll,h.ln,h.le,h.lp,h.bo,glu_set h.lo hk,h.no,h.ea,h.pi⟩
theorem glu_k {k:Int}(h0:0≤k)(h1:k≤119):Glu k:=⟨h0,by omega⟩
theorem okI_south {s:SI}(i:Nat)(h:OkI K s):Glu (southI K i s):=by
  unfold southI;split
  · exact glu_getD _ h.bo
  · exact glu_getD _ h.no
theorem okI_west {s:SI}(i:Nat)(h:OkI K s):Glu (westI K i s):=by
  unfold westI;split
  · exact glu_getD _ h.lo
  · exact glu_getD _ h.ea
theorem okK_cell (hK:OkK K)(i:Nat):0≤K.Cells.getD i 0∧K.Cells.getD i 0≤5:=by
  rw [List.getD_eq_getElem?_getD];cases hx:K.Cells[i]? with
  | none=>exact ⟨by simp,by simp⟩
  | some x=>exact hK.c x (List.mem_of_getElem? hx)
theorem okF_take {cell:SI→Bool×SI}(hc:OkF K cell)(i:Nat){p:Piece}(hp:okPiece p):OkF K (takeI cell i p):=fun _ h=>hc _ (h.take i hp)
theorem okI_try {cell:SI→Bool×SI}(hc:OkF K cell)(i:Nat){p:Piece}(hp:okPiece p){s:SI}(h:OkI K s)(hl:(s.pieces.length:Int)<K.most):OkI K (tryI cell i p s).2:=by
  have:=okF_take hc i hp _ (h.add hp hl);unfold tryI cutI;dsimp only;split
  · exact this
  · exact this.cut _
def OkL (K:SK)(n:Nat)(s:SI):Prop:=OkI K s∧s.pieces.length≤n
theorem okI_try' {cell:SI→Bool×SI}(hc:OkF K cell)(i:Nat){p:Piece}(hp:okPiece p){n:Nat}(hl:(n:Int)<K.most){s:SI}(h:OkL K n s):OutP (OkL K n) (OkI K) (tryI cell i p s):=by have h1:=okI_try hc i hp h.1 (by have:=h.2;omega);refine ⟨fun hh=>⟨h1,?_⟩,fun _=>h1⟩;have hh':(takeI cell i p { s with pieces:=s.pieces++[p] }).1=false:=hh;unfold tryI cutI;dsimp only;rw [hh',if_neg (by decide)];have:=h.2;simp only [List.length_take];omega
theorem okI_col (hK:OkK K){cell:SI→Bool×SI}(hc:OkF K cell)(i:Nat){so we r:Int}(hso:Glu so)(hwe:Glu we)(hr:Glu r){n:Nat}(hl:(n:Int)<K.most){s:SI}(h:OkL K n s):OutP (OkL K n) (OkI K) (colsI (fun e=>tryI cell i ⟨K.Cells.getD i 0,r,e,so,we⟩) s) :=
  colsI_ok (fun _ _ hn h=>⟨h.1.cols hn,h.2⟩) h.1.co h (fun _ _ h0 h1 h=>okI_try' hc i ⟨okK_cell hK i,hr,glu_k h0 h1,hso,hwe⟩ hl h)
theorem okI_new (hK:OkK K){cell:SI→Bool×SI}(hc:OkF K cell)(i:Nat){so we:Int}(hso:Glu so)(hwe:Glu we){n:Nat}(hl:(n:Int)<K.most){s:SI}(h:OkL K n s):OutP (OkL K n) (OkI K) (newI K cell i so we s) :=
  rowsI_ok (fun _ _ hn h=>⟨h.1.rows hn,h.2⟩) h.1.ro h (fun _ _ h0 h1 h=>okI_col hK hc i hso hwe (glu_k h0 h1) hl h)
theorem OutP.okI {n:Nat}{o:Bool×SI}(h:OutP (OkL K n) (OkI K) o):OkI K o.2:=by
  cases hr:o.1 with
  | false=>exact (h.1 hr).1
  | true=>exact h.2 hr
theorem okF_step (hK:OkK K){cell:SI→Bool×SI}(hc:OkF K cell)(i:Nat):OkF K (stepI K cell i):=by
  intro s h;unfold stepI;by_cases hb:K.budget≤s.steps
  · rw [if_pos hb];exact ⟨h.st,h.ro,h.co,h.lb,h.ll,h.ln,h.le,h.lp,h.bo,h.lo,h.no,h.ea,h.pi⟩
  · rw [if_neg hb];have h1:=h.step hb;have hso:=okI_south i h;have hwe:=okI_west i h;generalize southI K i s=so at *;generalize westI K i s=we at *;unfold layI;dsimp only;cases hf:s.pieces.find? (isInl so we) with
    | some p =>
      dsimp only;split
      · exact okF_take hc i (h.pi p (List.mem_of_find?_eq_some hf)) _ h1
      · exact h1
    | none =>
      dsimp only;split
      · exact h1
      · exact (okI_new hK hc i hso hwe (n:=s.pieces.length) (by omega) ⟨h1,Nat.le_refl _⟩).okI
theorem okF_bottom (hK:OkK K){cell:SI→Bool×SI}(hc:OkF K cell)(i:Nat):OkF K (bottomI K cell i):=by
  intro s h;unfold bottomI;split
  · exact okF_step hK hc i s h
  · exact (rowsI_ok (P:=OkI K) (Q:=OkI K) (fun _ _ hn h=>h.rows hn) h.ro h (fun k s h0 h1 h=>.of (okF_step hK hc i _ (h.bot i (glu_k h0 h1))))).both
theorem okF_cell (hK:OkK K):∀ n,OkF K (cellI K n)
  | 0=>fun s h=>h
  | n+1=>fun s h=>by
    unfold cellI;split
    · exact (colsI_ok (P:=OkI K) (Q:=OkI K) (fun _ _ hn h=>h.cols hn) h.co h (fun k s h0 h1 h=>.of (okF_bottom hK (okF_cell hK n) _ _ (h.lef _ (glu_k h0 h1))))).both
    · exact okF_bottom hK (okF_cell hK n) _ s h
/-! A search without a find leaves the pieces. -/
def KeepP (f:SI→Bool×SI):Prop:=∀ s,(f s).1=false→(f s).2.pieces=s.pieces
theorem eachI_keep {set:Int→SI→SI}{go:Int→SI→Bool×SI}{b:Int}(hset:∀ n s,(set n s).pieces=s.pieces)(hgo:∀ k,KeepP (go k)):∀ (f:Nat) (k:Int),KeepP (eachI set go b f k)
  | 0,k,s,_=>hset _ _
  | f+1,k,s,h=>by
    unfold eachI at h ⊢;cases hr:(go k (set (max b (k+1)) s)).1 with
    | true=>rw [hr,if_pos rfl] at h;rw [hr] at h;cases h
    | false=>rw [hr,if_neg (by decide)] at h;rw [if_neg (by decide),eachI_keep hset hgo f (k+1) _ h,hgo k _ hr,hset]
theorem rowsI_keep {go:Int→SI→Bool×SI}(hgo:∀ k,KeepP (go k)):KeepP (rowsI go):=fun s h=>eachI_keep (set:=setRows) (fun _ _=>rfl) hgo _ _ s h
theorem colsI_keep {go:Int→SI→Bool×SI}(hgo:∀ k,KeepP (go k)):KeepP (colsI go):=fun s h=>eachI_keep (set:=setCols) (fun _ _=>rfl) hgo _ _ s h
theorem keepP_try {cell:SI→Bool×SI}(hc:KeepP cell)(i:Nat)(p:Piece):KeepP (tryI cell i p):=fun s h=>by have h':(takeI cell i p { s with pieces:=s.pieces++[p] }).1=false:=h;have:=hc _ h';unfold tryI cutI;dsimp only;rw [h',if_neg (by decide)];show (takeI cell i p { s with pieces:=s.pieces++[p] }).2.pieces.take s.pieces.length=s.pieces;unfold takeI;rw [this];simp
theorem keepP_step {cell:SI→Bool×SI}(hc:KeepP cell)(i:Nat):KeepP (stepI K cell i):=fun s h=>by
  unfold stepI at h ⊢;by_cases hb:K.budget≤s.steps
  · rw [if_pos hb] at h;cases h
  · rw [if_neg hb] at h ⊢;unfold layI at h ⊢;dsimp only at h ⊢;cases hf:s.pieces.find? (isInl (southI K i s) (westI K i s)) with
    | some p =>
      rw [hf] at h;dsimp only at h ⊢;by_cases hp:p.Color=K.Cells.getD i 0
      · rw [if_pos hp] at h ⊢;exact hc _ h
      · rw [if_neg hp]
    | none =>
      rw [hf] at h;dsimp only at h ⊢;by_cases hm:K.most≤(s.pieces.length:Int)
      · rw [if_pos hm]
      · rw [if_neg hm] at h ⊢;exact rowsI_keep (fun n=>colsI_keep fun e=>keepP_try hc i ⟨K.Cells.getD i 0,n,e,southI K i s,westI K i s⟩) _ h
theorem keepP_bottom {cell:SI→Bool×SI}(hc:KeepP cell)(i:Nat):KeepP (bottomI K cell i):=fun s h=>by
  unfold bottomI at h ⊢;by_cases hw:K.W≤i
  · rw [if_pos hw] at h ⊢;exact keepP_step hc i s h
  · rw [if_neg hw] at h ⊢;exact rowsI_keep (go:=fun n s=>stepI K cell i (botI i n s)) (fun n s h=>keepP_step hc i (botI i n s) h) s h
theorem keepP_cell:∀ n,KeepP (cellI K n)
  | 0=>fun s h=>by cases h
  | n+1=>fun s h=>by
    unfold cellI at h ⊢;by_cases hm:(K.Cells.length-(n+1)) % K.W=0
    · rw [if_pos hm] at h ⊢;exact colsI_keep (go:=fun k s=>bottomI K (cellI K n) (K.Cells.length-(n+1)) (lefI ((K.Cells.length-(n+1)) / K.W) k s)) (fun k s h=>keepP_bottom (keepP_cell n) _ (lefI ((K.Cells.length-(n+1)) / K.W) k s) h) s h
    · rw [if_neg hm] at h ⊢;exact keepP_bottom (keepP_cell n) _ s h
end Go.Proofs.Ytaleehohmpohoaa
