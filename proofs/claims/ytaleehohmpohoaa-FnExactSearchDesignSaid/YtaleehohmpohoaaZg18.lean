/- Laws that the proof stands on. -/
import Derived.Test.YtaleehohmpohoaaZg16
import Derived.WalkKit
import Derived.RangeFuncBox
import Derived.RangeFuncLeaves
import Derived.Shelf.Abstract
import Derived.OwnWalkIn
import Derived.TacticsInMore
import Derived.LoopNIn
import Derived.LoopIn
import Derived.Test.YtaleehohmpohoaaZg13
set_option linter.all false
namespace Go.Proofs.Ytaleehohmpohoaa
open Go.V Go.RowKit
set_option maxRecDepth 100000
def SrW (w:World)(I:Nat→Prop)(X:List Nat)(b1 b:Nat)(C:List D)(W:World):Prop :=
  (ioB w X).Below W∧∃ I' X',T I' W (.box (some b1) [.box (some b) C]) nil (.pointer (some ⟨b1,0,none⟩)) X'∧X'.Nodup∧(∀ x,x∈X'→(w.heap.size≤x∨x∈X)∧x<W.heap.size∧¬ I' x)∧(∀ z,I z→I' z)∧(∀ z,I' z→(I z∨w.heap.size≤z∨z∈X)∧z<W.heap.size)
theorem sr_open {I:Nat→Prop}{W:World}{b1 b:Nat}{C:List D}{X:List Nat}(h:T I W (.box (some b1) [.box (some b) C]) nil (.pointer (some ⟨b1,0,none⟩)) X) :
    ∃ cs1 e1 cs e F,W.heap[b1]?=some (.cells cs1 e1 (0,0))∧cs1.toList=[.pointer (some ⟨b,0,none⟩)]∧W.heap[b]?=some (.cells cs e (0,0))∧X=b1::b::F∧Cells I W C nil cs.toList F:=by
  simp only [T,Cells] at h;obtain ⟨b',cs1,e1,F',hu,ht,hh,rfl,u,us',F1,F2,hl,rfl,_,⟨b2,cs,e,F,rfl,ht2,hh2,rfl,hC⟩,rfl,rfl⟩:=h;obtain rfl:=ht _ rfl;obtain rfl:=ht2 _ rfl;exact ⟨cs1,e1,cs,e,F,hh,hl,hh2,by simp,hC⟩
theorem sr_close {I:Nat→Prop}{W:World}{b1 b:Nat}{C:List D}{cs1 cs:Array Value}{e1 e:TypeId}{F:List Nat}(h1:W.heap[b1]?=some (.cells cs1 e1 (0,0)))(h2:cs1.toList=[.pointer (some ⟨b,0,none⟩)])(h3:W.heap[b]?=some (.cells cs e (0,0)))(h4:Cells I W C nil cs.toList F) :
    T I W (.box (some b1) [.box (some b) C]) nil (.pointer (some ⟨b1,0,none⟩)) (b1::b::F):=by
  simp only [T,Cells];exact ⟨b1,cs1,e1,b::F,rfl,(fun k hk=>by cases hk;rfl),h1,rfl,_,_,b::F,[],h2,by simp,rfl,⟨b,cs,e,F,rfl,(fun k hk=>by cases hk;rfl),h3,rfl,h4⟩,rfl,rfl⟩
theorem SrW.cell {w W:World}{I:Nat→Prop}{X:List Nat}{b1 b j:Nat}{C:List D}{v:Value}(h:SrW w I X b1 b C W)(hj:C[j]?=some (.v v)):W.cell? ⟨b,j,none⟩=some v∧W.frozen? ⟨b,j,none⟩=false:=by obtain ⟨_,I',X',hT,_⟩:=h;obtain ⟨cs1,e1,cs,e,F,_,_,h3,_,hC⟩:=sr_open hT;obtain ⟨pre,u,post,A,F',B,h5,h6,_,_,h7,_⟩:=Cells.focus j hC hj;simp only [T] at h7;obtain ⟨rfl,_⟩:=h7;refine ⟨?_,by unfold World.frozen?;simp only [h3];simp⟩;unfold World.cell?;simp only [h3];rw [← Array.getElem?_toList,h5];simp [← h6]
theorem SrW.set {w W:World}{I:Nat→Prop}{X:List Nat}{b1 b j:Nat}{C:List D}{v y:Value}(h:SrW w I X b1 b C W)(hj:C[j]?=some (.v v))(hp:pruneL (fun _=>false) C=C)(hy:y.oneCell'=true):SrW w I X b1 b (C.set j (.v y)) (W.setCell ⟨b,j,none⟩ y):=by
  obtain ⟨hB,I',X',hT,hn,hX,hI1,hI2⟩:=h;obtain ⟨cs1,e1,cs,e,F,h1,h2,h3,rfl,hC⟩:=sr_open hT;obtain ⟨pre,u,post,A,F',B,h5,h6,rfl,_,h7,h8⟩:=Cells.focus j hC hj;simp only [T] at h7;obtain ⟨rfl,rfl⟩:=h7;have hn1:=List.nodup_cons.1 hn;have hn2:=List.nodup_cons.1 hn1.2;have hsz:(W.setCell ⟨b,j,none⟩ y).heap.size=W.heap.size:=(by simp [World.setCell]);have ho:∀ x,x≠b→(W.setCell ⟨b,j,none⟩ y).heap[x]?=W.heap[x]?:=fun x hx=>Below.heap_setCell W ⟨b,j,none⟩ y x hx;have hb:(W.setCell ⟨b,j,none⟩ y).heap[b]?=some (.cells (cs.setIfInBounds j y) e (0,0)):=(by obtain ⟨hlt,hk3⟩:=Array.getElem?_eq_some_iff.1 h3;show (W.heap.modify b _)[b]?=_;rw [Array.getElem?_eq_getElem (by rw [Array.size_modify];exact hlt),Array.getElem_modify_self,hk3];rfl);have hbX:=hX b (by simp);have hc':=h8 (W.setCell ⟨b,j,none⟩ y) nil (fun _=>false) (.v y) y [] (fun x hx=>ho x (fun e=>by
    subst e;rcases hx with hx | hx | hx
    · exact hbX.2.2 hx
    · exact hn2.1 (by simp [hx])
    · exact hn2.1 (by simp [hx]))) (fun _ _ hq _=>by cases hq) hy (by simp [T])
  rw [hp] at hc';have hl:(cs.setIfInBounds j y).toList=pre++y::post:=by rw [Array.toList_setIfInBounds,h5,← h6];simp
  rw [← hl] at hc';refine ⟨hB.keeps (Base.Keeps.setCell (show (ioB w X).N b from hbX.1) j y),I',b1::b::(A++[]++B),sr_close ((ho b1 (fun e=>hn1.1 (by simp [e]))).trans h1) h2 hb hc',hn,fun x hx=>?_,hI1,fun z hz=>?_⟩
  · rw [hsz];exact hX x hx
  · rw [hsz];exact hI2 z hz
theorem SrW.call {P:Program}{w W:World}{I:Nat→Prop}{X:List Nat}{b1 b:Nat}{C C':List D}{F:FuncId}{x res:Value}{caps:List D}{vs:List Value}(h:SrW w I X b1 b C W)(hI:∀ z,I z→z<w.heap.size)(hX:∀ x,x∈X→¬ I x)(hv:Vals I w caps nil vs [])
    (hC:ContractX P NoG F 1 (.v x::.undef::caps) [.box (some b) C] (.v res) [.box (some b) C']):Calls P F (x::.pointer (some ⟨b1,0,none⟩)::vs).toArray W fun e W'=>e=.returned res∧SrW w I X b1 b C' W':=by
  obtain ⟨hB,I',X',hT,hn,hX',hI1,hI2⟩:=h;have hv':Vals I' W caps nil vs []:=Vals.mono hI1 _ (Vals.keep _ hv (fun z hz=>by
    rcases hz with hz | hz
    · exact hB.block z (fun hN=>hN.elim (fun hs=>absurd (hI z hz) (by omega)) (fun hm=>hX z hm hz))
    · cases hz))
  refine (hC.2 W I' (x::.pointer (some ⟨b1,0,none⟩)::vs) b1 X' gI (fun z hz=>(hI2 z hz).2) rfl ?_ hT hn (fun x hx=>(hX' x hx).2)).mono ?_
  · show Vals I' W (.v x::.undef::caps) nil _ [];simp only [Vals,T];exact ⟨_,_,[],[],rfl,rfl,⟨rfl,rfl⟩,_,_,[],[],rfl,rfl,rfl,hv'⟩
  · rintro e W' ⟨v,Fv,X2,I2,rfl,hb2,hTv,hT2,hn2,hF2,hJ1,hJ2⟩;simp only [T] at hTv;obtain ⟨rfl,rfl⟩:=hTv;simp only [List.nil_append] at hn2 hF2;have hN:∀ z,(ioB W X').N z→(ioB w X).N z:=fun z hz=>by
      rcases hz with hz | hz
      · exact .inl (Nat.le_trans hB.size hz)
      · exact (hX' z hz).1
    refine ⟨rfl,⟨hb2.os.trans hB.os,hb2.tape.trans hB.tape,hb2.output.trans hB.output,Nat.le_trans hB.size hb2.size,fun k hk=>(hb2.block k (fun h=>hk (hN k h))).trans (hB.block k hk)⟩,I2,X2,hT2,hn2,fun x hx=>⟨(hF2 x hx).1.elim (fun h=>.inl (Nat.le_trans hB.size h)) (fun h=>(hX' x h).1),(hF2 x hx).2⟩,fun z hz=>hJ1 z (hI1 z hz),fun z hz=>⟨?_,(hJ2 z hz).2⟩⟩;rcases (hJ2 z hz).1 with hh | hh | hh
    · exact (hI2 z hh).1
    · exact .inr (.inl (Nat.le_trans hB.size hh))
    · exact .inr (hX' z hh).1
abbrev ipI (x:Int):D:=.iptr [.v (.int .i64 x)] 0
theorem ips_F {I:Nat→Prop}{w:World}:∀ (xs:List Int) {vs:List Value} {F:List Nat},Vals I w (xs.map ipI) nil vs F→F=[]∧vs.length=xs.length
  | [],vs,F,h=>by simp only [List.map_nil,Vals] at h;exact ⟨h.2,by rw [h.1];rfl⟩
  | x::xs,vs,F,h=>by simp only [List.map_cons,Vals,T] at h;obtain ⟨u,us',F1,F2,rfl,rfl,⟨rfl,_⟩,h2⟩:=h;obtain ⟨rfl,hl⟩:=ips_F xs h2;exact ⟨rfl,by simp [hl]⟩
theorem sr_prune (K:SK)(s:SI):pruneL (fun _=>false) (srD true K s)=srD true K s:=by simp only [srD,pruneL,D.prune]
theorem each_open {I:Nat→Prop}{w:World}{F:FuncId}{xs:List Int}{C:List D}{b:Nat}{u:Value}{X:List Nat}(h:T I w (.fn F [] (.box none [.box (some b) C]::xs.map ipI)) nil u X) :
    ∃ b1 vs,u=.func (.func F) #[] (.pointer (some ⟨b1,0,none⟩)::vs).toArray∧vs.length=xs.length∧Vals I w (xs.map ipI) nil vs []∧T I w (.box (some b1) [.box (some b) C]) nil (.pointer (some ⟨b1,0,none⟩)) X:=by
  rw [T] at h;obtain ⟨us0,vs0,G1,G2,rfl,rfl,hV0,hV1⟩:=h;simp only [Vals] at hV0;obtain ⟨rfl,rfl⟩:=hV0;rw [Vals] at hV1;obtain ⟨v0,vr,A,B,rfl,rfl,hT0,hVr⟩:=hV1;obtain ⟨rfl,hl⟩:=ips_F xs hVr;rw [T] at hT0;obtain ⟨b1,cs,e,F',rfl,_,hh,hF,hC⟩:=hT0;refine ⟨b1,vr,rfl,hl,hVr,?_⟩;rw [T];exact ⟨b1,cs,e,F',rfl,(fun k hk=>by cases hk;rfl),hh,by simpa using hF,hC⟩
theorem each_close {w W:World}{I:Nat→Prop}{F:FuncId}{xs:List Int}{C:List D}{b b1:Nat}{X:List Nat}{vs:List Value}{res:Value}(h:SrW w I X b1 b C W)(hI:∀ z,I z→z<w.heap.size)(hX:∀ x,x∈X→¬ I x)(hv:Vals I w (xs.map ipI) nil vs []) :
    ∃ v Fv X' I',Ending.returned res=.returned v∧(ioB w X).Below W∧T I' W (.v res) nil v Fv∧T I' W (.fn F [] (.box none [.box (some b) C]::xs.map ipI)) nil (.func (.func F) #[] (.pointer (some ⟨b1,0,none⟩)::vs).toArray) X'∧(Fv++X').Nodup∧(∀ x,x∈Fv++X'→(w.heap.size≤x∨x∈X)∧x<W.heap.size∧¬ I' x)∧(∀ b,I b→I' b)∧(∀ b,I' b→(I b∨w.heap.size≤b∨b∈X)∧b<W.heap.size):=by
  obtain ⟨hB,I',X',hT,hn,hX',hI1,hI2⟩:=h;refine ⟨res,[],X',I',rfl,hB,by simp [T],?_,by simpa using hn,by simpa using hX',hI1,hI2⟩;rw [T];refine ⟨[],_,[],X',rfl,by simp,by simp [Vals],?_⟩;rw [Vals];refine ⟨_,_,X',[],rfl,by simp,?_,Vals.mono hI1 _ (Vals.keep _ hv (fun z hz=>by
    rcases hz with hz | hz
    · exact hB.block z (fun hN=>hN.elim (fun hs=>absurd (hI z hz) (by omega)) (fun hm=>hX z hm hz))
    · cases hz))⟩
  rw [T] at hT ⊢;obtain ⟨b2,cs,e,F',h1,_,h3⟩:=hT;exact ⟨b2,cs,e,F',h1,(fun k hk=>by cases hk),h3⟩
set_option maxHeartbeats 4000000 in
theorem each_cell {R:SI→World→Prop} {P Q:SI→Prop} {get:SI→Int} {set:Int→SI→SI} {go:Int→SI→Bool×SI} {b j:Nat} {v0 v1:Value}
    (hcell:∀ s W,R s W→W.cell? ⟨b,j,none⟩=some (.int .i64 (get s))∧W.frozen? ⟨b,j,none⟩=false) (hset:∀ n s W,R s W→R (set n s) (W.setCell ⟨b,j,none⟩ (.int .i64 n))) (hP:∀ n s,Glu n→P s→P (set n s))
    (hgo:∀ k s W,0≤k→k≤119→P s→R s W→Calls Try.prog 98 #[.int .i64 k,v0,v1] W fun e W'=>e=.returned (.bool (go k s).1)∧R (go k s).2 W') (hO:∀ k s,0≤k→k≤119→P s→OutP P Q (go k s))
    (s:SI) (w:World) (h:R s w) (hs:P s) (hb:Glu (get s)):Calls Try.prog 97 #[.pointer (some ⟨b,j,none⟩),.func (.func 98) #[] #[v0,v1]] w fun e W'=>e=.returned (.bool (eachI set go (get s) (nEach (get s)) 0 s).1)∧R (eachI set go (get s) (nEach (get s)) 0 s).2 W':=by
  have hc0:=(hcell s w h).1;have hn1:(nEach (get s):Int)≤get s+1∧(nEach (get s):Int)≤120∧(get s<(nEach (get s):Int)∨119<(nEach (get s):Int)):=(by unfold nEach Glu at *;omega);obtain ⟨R0,hR0⟩:∃ R0,eachI set go (get s) (nEach (get s)) 0 s=R0:=⟨_,rfl⟩
  rw [hR0];generalize hb0:get s=b0 at *;generalize hN:nEach b0=n at *;have hb':=hb;unfold Glu at hb';go_enter Try.func97,Try.ntmps97;go_wp2
  go_loopw [6] (fun i wr=>∃ (k:Nat) (s':SI),i=.int .i64 k∧k≤n∧P s'∧R s' wr∧eachI set go b0 (n-k) k s'=R0) (fun i _=>n-(intOf i).toNat)
  case atStart=>exact ⟨0,s,rfl,Nat.zero_le _,hs,h,hR0⟩
  case round =>
    obtain ⟨k,s',rfl,hk,hPs,hRs,hE⟩:=hrel;obtain ⟨c1,c2⟩:=hcell s' wr hRs;by_cases hlt:k<n
    · have g1:(k:Int)≤b0:=(by omega);have g2:(k:Int)≤119:=(by omega);have hfin:=hset (max b0 (k+1)) s' wr hRs;have hPn:=hP (max b0 (k+1)) s' (glu_max hb (by omega) g2) hPs;have hcall:=hgo k _ _ (by omega) g2 hPn hfin;have hok:=hO k _ (by omega) g2 hPn;have hstep:eachI set go b0 (n-k) k s'=if (go k (set (max b0 (k+1)) s')).1 then go k (set (max b0 (k+1)) s') else eachI set go b0 (n-(k+1)) (k+1) (go k (set (max b0 (k+1)) s')).2:=by rw [show n-k=(n-(k+1))+1 by omega,eachI]
      generalize go k (set (max b0 (k+1)) s')=o at *;cases hr:o.1 with
      | true =>
        rw [hr,if_pos rfl] at hstep;rw [hr] at hcall;go_wp2_with fail
        all_goals
          first
            | rw [show max b0 ((k:Int)+1)=b0 by omega] at hcall
            | rw [show max b0 ((k:Int)+1)=(k:Int)+1 by omega] at hcall
          refine hcall.mono ?_;rintro e W' ⟨rfl,hR'⟩;go_wp2_with fail;go_ret;obtain rfl:R0=o:=hE.symm.trans hstep;exact ⟨by rw [hr];rfl,hR'⟩
      | false =>
        rw [hr,if_neg (by decide)] at hstep;rw [hr] at hcall;go_wp2_with fail
        all_goals
          first
            | rw [show max b0 ((k:Int)+1)=b0 by omega] at hcall
            | rw [show max b0 ((k:Int)+1)=(k:Int)+1 by omega] at hcall
          refine hcall.mono ?_;rintro e W' ⟨rfl,hR'⟩;go_wp2_with fail
          go_roundw
          case rel=>exact ⟨k+1,o.2,by go_num,hlt,hok.1 hr,hR',by rw [← hE,hstep];rfl⟩
          case measure=>simp [intOf];omega
    · rw [show n-k=0 by omega] at hE;have hfin:=hset b0 s' wr hRs;obtain ⟨_,_,hn3⟩:=hn1;have hk3:b0<(k:Int)∨((k:Int)≤b0∧119<(k:Int)):=by omega
      clear hn3;rcases hk3 with hk3 | ⟨hk3,hk4⟩
      all_goals
        go_wp2_with fail
        go_ret;obtain rfl:R0=(false,set b0 s'):=hE.symm;exact ⟨rfl,hfin⟩
theorem v_each_cell {K:SK}{go:Int→SI→Bool×SI}{P Q:SI→Prop}{x1:Int}(hP:∀ n s,Glu n→P s→P (setCols n s))(hO:∀ k s,0≤k→k≤119→P s→OutP P Q (go k s))
    (hgo:∀ (b:Nat) (k:Int) (s:SI),0≤k→k≤119→P s→ContractX Try.prog NoG 98 1 [.v (.int .i64 k),.undef,ipI x1] [.box (some b) (srD true K s)] (.v (.bool (go k s).1)) [.box (some b) (srD true K (go k s).2)]) (s:SI) (hs:P s) (hb:Glu s.cols) (b:Nat) :
    ContractL Try.prog NoG 97 1 [.v (.pointer (some ⟨b,8,none⟩)),.undef] (.fn 98 [] (.box none [.box (some b) (srD true K s)]::[ipI x1])) (.v (.bool (colsI go s).1)) (.fn 98 [] (.box none [.box (some b) (srD true K (colsI go s).2)]::[ipI x1])):=by
  refine ⟨fun us W=>by kernel_rfl,fun w I us u X hG hI hu hV hT hn hX=>?_⟩;simp only [List.set_cons_succ,List.set_cons_zero,Vals,T] at hV;obtain ⟨_,_,_,_,rfl,_,⟨rfl,_⟩,u2,_,_,_,rfl,_,_,rfl,_⟩:=hV;obtain rfl:u2=u:=by simpa using hu
  obtain ⟨b1,vs,rfl,hl,hv,hT1⟩:=each_open (xs:=[x1]) hT;have hR:SrW w I X b1 b (srD true K s) w:=⟨Base.Below.refl (B:=ioB w X),I,X,hT1,hn,fun x hx=>⟨.inr hx,hX x hx⟩,fun _ h=>h,fun z hz=>⟨.inl hz,hI z hz⟩⟩
  obtain ⟨v1,rfl⟩:∃ v1,vs=[v1]:=by
    match vs,hl with
    | [v1],_=>exact ⟨v1,rfl⟩
  refine (each_cell (R:=fun s W=>SrW w I X b1 b (srD true K s) W) (P:=P) (Q:=Q) (get:=fun s=>s.cols) (set:=setCols) (go:=go) (b:=b) (j:=8) (fun s W h=>h.cell rfl) (fun n s W h=>h.set rfl (sr_prune K s) rfl) hP
    (fun k s W h0 h1 hp h=>h.call hI (fun x hx=>(hX x hx).2) hv (hgo b k s h0 h1 hp)) hO s w hR hs hb).mono ?_
  rintro e w' ⟨rfl,hR'⟩;exact each_close hR' hI (fun x hx=>(hX x hx).2) hv
set_option maxHeartbeats 4000000 in
theorem each_bottom {R:SI→World→Prop} {P Q:SI→Prop} {get:SI→Int} {set:Int→SI→SI} {go:Int→SI→Bool×SI} {b j:Nat} {v0 v1:Value}
    (hcell:∀ s W,R s W→W.cell? ⟨b,j,none⟩=some (.int .i64 (get s))∧W.frozen? ⟨b,j,none⟩=false) (hset:∀ n s W,R s W→R (set n s) (W.setCell ⟨b,j,none⟩ (.int .i64 n))) (hP:∀ n s,Glu n→P s→P (set n s))
    (hgo:∀ k s W,0≤k→k≤119→P s→R s W→Calls Try.prog 113 #[.int .i64 k,v0,v1] W fun e W'=>e=.returned (.bool (go k s).1)∧R (go k s).2 W') (hO:∀ k s,0≤k→k≤119→P s→OutP P Q (go k s))
    (s:SI) (w:World) (h:R s w) (hs:P s) (hb:Glu (get s)):Calls Try.prog 97 #[.pointer (some ⟨b,j,none⟩),.func (.func 113) #[] #[v0,v1]] w fun e W'=>e=.returned (.bool (eachI set go (get s) (nEach (get s)) 0 s).1)∧R (eachI set go (get s) (nEach (get s)) 0 s).2 W':=by
  have hc0:=(hcell s w h).1;have hn1:(nEach (get s):Int)≤get s+1∧(nEach (get s):Int)≤120∧(get s<(nEach (get s):Int)∨119<(nEach (get s):Int)):=(by unfold nEach Glu at *;omega);obtain ⟨R0,hR0⟩:∃ R0,eachI set go (get s) (nEach (get s)) 0 s=R0:=⟨_,rfl⟩
  rw [hR0];generalize hb0:get s=b0 at *;generalize hN:nEach b0=n at *;have hb':=hb;unfold Glu at hb';go_enter Try.func97,Try.ntmps97;go_wp2
  go_loopw [6] (fun i wr=>∃ (k:Nat) (s':SI),i=.int .i64 k∧k≤n∧P s'∧R s' wr∧eachI set go b0 (n-k) k s'=R0) (fun i _=>n-(intOf i).toNat)
  case atStart=>exact ⟨0,s,rfl,Nat.zero_le _,hs,h,hR0⟩
  case round =>
    obtain ⟨k,s',rfl,hk,hPs,hRs,hE⟩:=hrel;obtain ⟨c1,c2⟩:=hcell s' wr hRs;by_cases hlt:k<n
    · have g1:(k:Int)≤b0:=(by omega);have g2:(k:Int)≤119:=(by omega);have hfin:=hset (max b0 (k+1)) s' wr hRs;have hPn:=hP (max b0 (k+1)) s' (glu_max hb (by omega) g2) hPs;have hcall:=hgo k _ _ (by omega) g2 hPn hfin;have hok:=hO k _ (by omega) g2 hPn;have hstep:eachI set go b0 (n-k) k s'=if (go k (set (max b0 (k+1)) s')).1 then go k (set (max b0 (k+1)) s') else eachI set go b0 (n-(k+1)) (k+1) (go k (set (max b0 (k+1)) s')).2:=by rw [show n-k=(n-(k+1))+1 by omega,eachI]
      generalize go k (set (max b0 (k+1)) s')=o at *;cases hr:o.1 with
      | true =>
        rw [hr,if_pos rfl] at hstep;rw [hr] at hcall;go_wp2_with fail
        all_goals
          first
            | rw [show max b0 ((k:Int)+1)=b0 by omega] at hcall
            | rw [show max b0 ((k:Int)+1)=(k:Int)+1 by omega] at hcall
          refine hcall.mono ?_;rintro e W' ⟨rfl,hR'⟩;go_wp2_with fail;go_ret;obtain rfl:R0=o:=hE.symm.trans hstep;exact ⟨by rw [hr];rfl,hR'⟩
      | false =>
        rw [hr,if_neg (by decide)] at hstep;rw [hr] at hcall;go_wp2_with fail
        all_goals
          first
            | rw [show max b0 ((k:Int)+1)=b0 by omega] at hcall
            | rw [show max b0 ((k:Int)+1)=(k:Int)+1 by omega] at hcall
          refine hcall.mono ?_;rintro e W' ⟨rfl,hR'⟩;go_wp2_with fail
          go_roundw
          case rel=>exact ⟨k+1,o.2,by go_num,hlt,hok.1 hr,hR',by rw [← hE,hstep];rfl⟩
          case measure=>simp [intOf];omega
    · rw [show n-k=0 by omega] at hE;have hfin:=hset b0 s' wr hRs;obtain ⟨_,_,hn3⟩:=hn1;have hk3:b0<(k:Int)∨((k:Int)≤b0∧119<(k:Int)):=by omega
      clear hn3;rcases hk3 with hk3 | ⟨hk3,hk4⟩
      all_goals
        go_wp2_with fail
        go_ret;obtain rfl:R0=(false,set b0 s'):=hE.symm;exact ⟨rfl,hfin⟩
theorem v_each_bottom {K:SK}{go:Int→SI→Bool×SI}{P Q:SI→Prop}{x1:Int}(hP:∀ n s,Glu n→P s→P (setRows n s))(hO:∀ k s,0≤k→k≤119→P s→OutP P Q (go k s))
    (hgo:∀ (b:Nat) (k:Int) (s:SI),0≤k→k≤119→P s→ContractX Try.prog NoG 113 1 [.v (.int .i64 k),.undef,ipI x1] [.box (some b) (srD true K s)] (.v (.bool (go k s).1)) [.box (some b) (srD true K (go k s).2)]) (s:SI) (hs:P s) (hb:Glu s.rows) (b:Nat) :
    ContractL Try.prog NoG 97 1 [.v (.pointer (some ⟨b,7,none⟩)),.undef] (.fn 113 [] (.box none [.box (some b) (srD true K s)]::[ipI x1])) (.v (.bool (rowsI go s).1)) (.fn 113 [] (.box none [.box (some b) (srD true K (rowsI go s).2)]::[ipI x1])):=by
  refine ⟨fun us W=>by kernel_rfl,fun w I us u X hG hI hu hV hT hn hX=>?_⟩;simp only [List.set_cons_succ,List.set_cons_zero,Vals,T] at hV;obtain ⟨_,_,_,_,rfl,_,⟨rfl,_⟩,u2,_,_,_,rfl,_,_,rfl,_⟩:=hV;obtain rfl:u2=u:=by simpa using hu
  obtain ⟨b1,vs,rfl,hl,hv,hT1⟩:=each_open (xs:=[x1]) hT;have hR:SrW w I X b1 b (srD true K s) w:=⟨Base.Below.refl (B:=ioB w X),I,X,hT1,hn,fun x hx=>⟨.inr hx,hX x hx⟩,fun _ h=>h,fun z hz=>⟨.inl hz,hI z hz⟩⟩
  obtain ⟨v1,rfl⟩:∃ v1,vs=[v1]:=by
    match vs,hl with
    | [v1],_=>exact ⟨v1,rfl⟩
  refine (each_bottom (R:=fun s W=>SrW w I X b1 b (srD true K s) W) (P:=P) (Q:=Q) (get:=fun s=>s.rows) (set:=setRows) (go:=go) (b:=b) (j:=7) (fun s W h=>h.cell rfl) (fun n s W h=>h.set rfl (sr_prune K s) rfl) hP
    (fun k s W h0 h1 hp h=>h.call hI (fun x hx=>(hX x hx).2) hv (hgo b k s h0 h1 hp)) hO s w hR hs hb).mono ?_
  rintro e w' ⟨rfl,hR'⟩;exact each_close hR' hI (fun x hx=>(hX x hx).2) hv
set_option maxHeartbeats 4000000 in
theorem each_step {R:SI→World→Prop} {P Q:SI→Prop} {get:SI→Int} {set:Int→SI→SI} {go:Int→SI→Bool×SI} {b j:Nat} {v0 v1 v2 v3:Value}
    (hcell:∀ s W,R s W→W.cell? ⟨b,j,none⟩=some (.int .i64 (get s))∧W.frozen? ⟨b,j,none⟩=false) (hset:∀ n s W,R s W→R (set n s) (W.setCell ⟨b,j,none⟩ (.int .i64 n))) (hP:∀ n s,Glu n→P s→P (set n s))
    (hgo:∀ k s W,0≤k→k≤119→P s→R s W→Calls Try.prog 122 #[.int .i64 k,v0,v1,v2,v3] W fun e W'=>e=.returned (.bool (go k s).1)∧R (go k s).2 W') (hO:∀ k s,0≤k→k≤119→P s→OutP P Q (go k s))
    (s:SI) (w:World) (h:R s w) (hs:P s) (hb:Glu (get s)):Calls Try.prog 97 #[.pointer (some ⟨b,j,none⟩),.func (.func 122) #[] #[v0,v1,v2,v3]] w fun e W'=>e=.returned (.bool (eachI set go (get s) (nEach (get s)) 0 s).1)∧R (eachI set go (get s) (nEach (get s)) 0 s).2 W':=by
  have hc0:=(hcell s w h).1;have hn1:(nEach (get s):Int)≤get s+1∧(nEach (get s):Int)≤120∧(get s<(nEach (get s):Int)∨119<(nEach (get s):Int)):=(by unfold nEach Glu at *;omega);obtain ⟨R0,hR0⟩:∃ R0,eachI set go (get s) (nEach (get s)) 0 s=R0:=⟨_,rfl⟩
  rw [hR0];generalize hb0:get s=b0 at *;generalize hN:nEach b0=n at *;have hb':=hb;unfold Glu at hb';go_enter Try.func97,Try.ntmps97;go_wp2
  go_loopw [6] (fun i wr=>∃ (k:Nat) (s':SI),i=.int .i64 k∧k≤n∧P s'∧R s' wr∧eachI set go b0 (n-k) k s'=R0) (fun i _=>n-(intOf i).toNat)
  case atStart=>exact ⟨0,s,rfl,Nat.zero_le _,hs,h,hR0⟩
  case round =>
    obtain ⟨k,s',rfl,hk,hPs,hRs,hE⟩:=hrel;obtain ⟨c1,c2⟩:=hcell s' wr hRs;by_cases hlt:k<n
    · have g1:(k:Int)≤b0:=(by omega);have g2:(k:Int)≤119:=(by omega);have hfin:=hset (max b0 (k+1)) s' wr hRs;have hPn:=hP (max b0 (k+1)) s' (glu_max hb (by omega) g2) hPs;have hcall:=hgo k _ _ (by omega) g2 hPn hfin;have hok:=hO k _ (by omega) g2 hPn;have hstep:eachI set go b0 (n-k) k s'=if (go k (set (max b0 (k+1)) s')).1 then go k (set (max b0 (k+1)) s') else eachI set go b0 (n-(k+1)) (k+1) (go k (set (max b0 (k+1)) s')).2:=by rw [show n-k=(n-(k+1))+1 by omega,eachI]
      generalize go k (set (max b0 (k+1)) s')=o at *;cases hr:o.1 with
      | true =>
        rw [hr,if_pos rfl] at hstep;rw [hr] at hcall;go_wp2_with fail
        all_goals
          first
            | rw [show max b0 ((k:Int)+1)=b0 by omega] at hcall
            | rw [show max b0 ((k:Int)+1)=(k:Int)+1 by omega] at hcall
          refine hcall.mono ?_;rintro e W' ⟨rfl,hR'⟩;go_wp2_with fail;go_ret;obtain rfl:R0=o:=hE.symm.trans hstep;exact ⟨by rw [hr];rfl,hR'⟩
      | false =>
        rw [hr,if_neg (by decide)] at hstep;rw [hr] at hcall;go_wp2_with fail
        all_goals
          first
            | rw [show max b0 ((k:Int)+1)=b0 by omega] at hcall
            | rw [show max b0 ((k:Int)+1)=(k:Int)+1 by omega] at hcall
          refine hcall.mono ?_;rintro e W' ⟨rfl,hR'⟩;go_wp2_with fail
          go_roundw
          case rel=>exact ⟨k+1,o.2,by go_num,hlt,hok.1 hr,hR',by rw [← hE,hstep];rfl⟩
          case measure=>simp [intOf];omega
    · rw [show n-k=0 by omega] at hE;have hfin:=hset b0 s' wr hRs;obtain ⟨_,_,hn3⟩:=hn1;have hk3:b0<(k:Int)∨((k:Int)≤b0∧119<(k:Int)):=by omega
      clear hn3;rcases hk3 with hk3 | ⟨hk3,hk4⟩
      all_goals
        go_wp2_with fail
        go_ret;obtain rfl:R0=(false,set b0 s'):=hE.symm;exact ⟨rfl,hfin⟩
theorem v_each_step {K:SK}{go:Int→SI→Bool×SI}{P Q:SI→Prop}{x1 x2 x3:Int}(hP:∀ n s,Glu n→P s→P (setRows n s))(hO:∀ k s,0≤k→k≤119→P s→OutP P Q (go k s))
    (hgo:∀ (b:Nat) (k:Int) (s:SI),0≤k→k≤119→P s→ContractX Try.prog NoG 122 1 [.v (.int .i64 k),.undef,ipI x1,ipI x2,ipI x3] [.box (some b) (srD true K s)] (.v (.bool (go k s).1)) [.box (some b) (srD true K (go k s).2)]) (s:SI) (hs:P s) (hb:Glu s.rows) (b:Nat) :
    ContractL Try.prog NoG 97 1 [.v (.pointer (some ⟨b,7,none⟩)),.undef] (.fn 122 [] (.box none [.box (some b) (srD true K s)]::[ipI x1,ipI x2,ipI x3])) (.v (.bool (rowsI go s).1)) (.fn 122 [] (.box none [.box (some b) (srD true K (rowsI go s).2)]::[ipI x1,ipI x2,ipI x3])):=by
  refine ⟨fun us W=>by kernel_rfl,fun w I us u X hG hI hu hV hT hn hX=>?_⟩;simp only [List.set_cons_succ,List.set_cons_zero,Vals,T] at hV;obtain ⟨_,_,_,_,rfl,_,⟨rfl,_⟩,u2,_,_,_,rfl,_,_,rfl,_⟩:=hV;obtain rfl:u2=u:=by simpa using hu
  obtain ⟨b1,vs,rfl,hl,hv,hT1⟩:=each_open (xs:=[x1,x2,x3]) hT;have hR:SrW w I X b1 b (srD true K s) w:=⟨Base.Below.refl (B:=ioB w X),I,X,hT1,hn,fun x hx=>⟨.inr hx,hX x hx⟩,fun _ h=>h,fun z hz=>⟨.inl hz,hI z hz⟩⟩
  obtain ⟨v1,v2,v3,rfl⟩:∃ v1 v2 v3,vs=[v1,v2,v3]:=by
    match vs,hl with
    | [v1,v2,v3],_=>exact ⟨v1,v2,v3,rfl⟩
  refine (each_step (R:=fun s W=>SrW w I X b1 b (srD true K s) W) (P:=P) (Q:=Q) (get:=fun s=>s.rows) (set:=setRows) (go:=go) (b:=b) (j:=7) (fun s W h=>h.cell rfl) (fun n s W h=>h.set rfl (sr_prune K s) rfl) hP
    (fun k s W h0 h1 hp h=>h.call hI (fun x hx=>(hX x hx).2) hv (hgo b k s h0 h1 hp)) hO s w hR hs hb).mono ?_
  rintro e w' ⟨rfl,hR'⟩;exact each_close hR' hI (fun x hx=>(hX x hx).2) hv
set_option maxHeartbeats 4000000 in
theorem each_step1 {R:SI→World→Prop} {P Q:SI→Prop} {get:SI→Int} {set:Int→SI→SI} {go:Int→SI→Bool×SI} {b j:Nat} {v0 v1 v2 v3 v4:Value}
    (hcell:∀ s W,R s W→W.cell? ⟨b,j,none⟩=some (.int .i64 (get s))∧W.frozen? ⟨b,j,none⟩=false) (hset:∀ n s W,R s W→R (set n s) (W.setCell ⟨b,j,none⟩ (.int .i64 n))) (hP:∀ n s,Glu n→P s→P (set n s))
    (hgo:∀ k s W,0≤k→k≤119→P s→R s W→Calls Try.prog 123 #[.int .i64 k,v0,v1,v2,v3,v4] W fun e W'=>e=.returned (.bool (go k s).1)∧R (go k s).2 W') (hO:∀ k s,0≤k→k≤119→P s→OutP P Q (go k s))
    (s:SI) (w:World) (h:R s w) (hs:P s) (hb:Glu (get s)):Calls Try.prog 97 #[.pointer (some ⟨b,j,none⟩),.func (.func 123) #[] #[v0,v1,v2,v3,v4]] w fun e W'=>e=.returned (.bool (eachI set go (get s) (nEach (get s)) 0 s).1)∧R (eachI set go (get s) (nEach (get s)) 0 s).2 W':=by
  have hc0:=(hcell s w h).1;have hn1:(nEach (get s):Int)≤get s+1∧(nEach (get s):Int)≤120∧(get s<(nEach (get s):Int)∨119<(nEach (get s):Int)):=(by unfold nEach Glu at *;omega);obtain ⟨R0,hR0⟩:∃ R0,eachI set go (get s) (nEach (get s)) 0 s=R0:=⟨_,rfl⟩
  rw [hR0];generalize hb0:get s=b0 at *;generalize hN:nEach b0=n at *;have hb':=hb;unfold Glu at hb';go_enter Try.func97,Try.ntmps97;go_wp2
  go_loopw [6] (fun i wr=>∃ (k:Nat) (s':SI),i=.int .i64 k∧k≤n∧P s'∧R s' wr∧eachI set go b0 (n-k) k s'=R0) (fun i _=>n-(intOf i).toNat)
  case atStart=>exact ⟨0,s,rfl,Nat.zero_le _,hs,h,hR0⟩
  case round =>
    obtain ⟨k,s',rfl,hk,hPs,hRs,hE⟩:=hrel;obtain ⟨c1,c2⟩:=hcell s' wr hRs;by_cases hlt:k<n
    · have g1:(k:Int)≤b0:=(by omega);have g2:(k:Int)≤119:=(by omega);have hfin:=hset (max b0 (k+1)) s' wr hRs;have hPn:=hP (max b0 (k+1)) s' (glu_max hb (by omega) g2) hPs;have hcall:=hgo k _ _ (by omega) g2 hPn hfin;have hok:=hO k _ (by omega) g2 hPn;have hstep:eachI set go b0 (n-k) k s'=if (go k (set (max b0 (k+1)) s')).1 then go k (set (max b0 (k+1)) s') else eachI set go b0 (n-(k+1)) (k+1) (go k (set (max b0 (k+1)) s')).2:=by rw [show n-k=(n-(k+1))+1 by omega,eachI]
      generalize go k (set (max b0 (k+1)) s')=o at *;cases hr:o.1 with
      | true =>
        rw [hr,if_pos rfl] at hstep;rw [hr] at hcall;go_wp2_with fail
        all_goals
          first
            | rw [show max b0 ((k:Int)+1)=b0 by omega] at hcall
            | rw [show max b0 ((k:Int)+1)=(k:Int)+1 by omega] at hcall
          refine hcall.mono ?_;rintro e W' ⟨rfl,hR'⟩;go_wp2_with fail;go_ret;obtain rfl:R0=o:=hE.symm.trans hstep;exact ⟨by rw [hr];rfl,hR'⟩
      | false =>
        rw [hr,if_neg (by decide)] at hstep;rw [hr] at hcall;go_wp2_with fail
        all_goals
          first
            | rw [show max b0 ((k:Int)+1)=b0 by omega] at hcall
            | rw [show max b0 ((k:Int)+1)=(k:Int)+1 by omega] at hcall
          refine hcall.mono ?_;rintro e W' ⟨rfl,hR'⟩;go_wp2_with fail
          go_roundw
          case rel=>exact ⟨k+1,o.2,by go_num,hlt,hok.1 hr,hR',by rw [← hE,hstep];rfl⟩
          case measure=>simp [intOf];omega
    · rw [show n-k=0 by omega] at hE;have hfin:=hset b0 s' wr hRs;obtain ⟨_,_,hn3⟩:=hn1;have hk3:b0<(k:Int)∨((k:Int)≤b0∧119<(k:Int)):=by omega
      clear hn3;rcases hk3 with hk3 | ⟨hk3,hk4⟩
      all_goals
        go_wp2_with fail
        go_ret;obtain rfl:R0=(false,set b0 s'):=hE.symm;exact ⟨rfl,hfin⟩
theorem v_each_step1 {K:SK}{go:Int→SI→Bool×SI}{P Q:SI→Prop}{x1 x2 x3 x4:Int}(hP:∀ n s,Glu n→P s→P (setCols n s))(hO:∀ k s,0≤k→k≤119→P s→OutP P Q (go k s))
    (hgo:∀ (b:Nat) (k:Int) (s:SI),0≤k→k≤119→P s→ContractX Try.prog NoG 123 1 [.v (.int .i64 k),.undef,ipI x1,ipI x2,ipI x3,ipI x4] [.box (some b) (srD true K s)] (.v (.bool (go k s).1)) [.box (some b) (srD true K (go k s).2)]) (s:SI) (hs:P s) (hb:Glu s.cols) (b:Nat) :
    ContractL Try.prog NoG 97 1 [.v (.pointer (some ⟨b,8,none⟩)),.undef] (.fn 123 [] (.box none [.box (some b) (srD true K s)]::[ipI x1,ipI x2,ipI x3,ipI x4])) (.v (.bool (colsI go s).1)) (.fn 123 [] (.box none [.box (some b) (srD true K (colsI go s).2)]::[ipI x1,ipI x2,ipI x3,ipI x4])):=by
  refine ⟨fun us W=>by kernel_rfl,fun w I us u X hG hI hu hV hT hn hX=>?_⟩;simp only [List.set_cons_succ,List.set_cons_zero,Vals,T] at hV;obtain ⟨_,_,_,_,rfl,_,⟨rfl,_⟩,u2,_,_,_,rfl,_,_,rfl,_⟩:=hV;obtain rfl:u2=u:=by simpa using hu
  obtain ⟨b1,vs,rfl,hl,hv,hT1⟩:=each_open (xs:=[x1,x2,x3,x4]) hT;have hR:SrW w I X b1 b (srD true K s) w:=⟨Base.Below.refl (B:=ioB w X),I,X,hT1,hn,fun x hx=>⟨.inr hx,hX x hx⟩,fun _ h=>h,fun z hz=>⟨.inl hz,hI z hz⟩⟩
  obtain ⟨v1,v2,v3,v4,rfl⟩:∃ v1 v2 v3 v4,vs=[v1,v2,v3,v4]:=by
    match vs,hl with
    | [v1,v2,v3,v4],_=>exact ⟨v1,v2,v3,v4,rfl⟩
  refine (each_step1 (R:=fun s W=>SrW w I X b1 b (srD true K s) W) (P:=P) (Q:=Q) (get:=fun s=>s.cols) (set:=setCols) (go:=go) (b:=b) (j:=8) (fun s W h=>h.cell rfl) (fun n s W h=>h.set rfl (sr_prune K s) rfl) hP
    (fun k s W h0 h1 hp h=>h.call hI (fun x hx=>(hX x hx).2) hv (hgo b k s h0 h1 hp)) hO s w hR hs hb).mono ?_
  rintro e w' ⟨rfl,hR'⟩;exact each_close hR' hI (fun x hx=>(hX x hx).2) hv
def p0:Piece:=⟨0,0,0,0,0⟩
attribute [local go_sem] Oper.semAt_some
end Go.Proofs.Ytaleehohmpohoaa
