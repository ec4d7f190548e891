/- Laws that the proof stands on. -/
import Derived.Lib.ParseIntBCases
import Derived.Test.YtjkbngjiagknkaaGreatDoorZVDec
import Derived.Lib.FieldsP
import Derived.Laws.RangeAny
set_option linter.all false
namespace Go.Proofs.YtjkbngjiagknkaaGreatDoor
open Go.RowKit Go.V
set_option maxRecDepth 100000
/-! A string cut at each byte x. -/
def cSp (x:UInt8):List UInt8→Nat→Nat→List (Nat × Nat)
  | [],i,f=>[(f,i)]
  | c::r,i,f=>if c=x then (f,i)::cSp x r (i+1) (i+1) else cSp x r (i+1) f
def lSp:List UInt8→Nat→Nat→List (Nat × Nat)
  | [],i,f=>if f < i then [(f,i)] else []
  | c::r,i,f=>if c=10 then (f,i)::lSp r (i+1) (i+1) else lSp r (i+1) f
def wSp:List UInt8→Nat→Nat→List (Nat × Nat)
  | [],i,f=>if f < i then [(f,i)] else []
  | c::r,i,f=>if c=32 then (if f < i then (f,i)::wSp r (i+1) (i+1) else wSp r (i+1) (i+1)) else wSp r (i+1) f
theorem lSp_cons (c:UInt8) (r:List UInt8) (i f:Nat):lSp (c::r) i f=if c=10 then (f,i)::lSp r (i+1) (i+1) else lSp r (i+1) f:=rfl
theorem cSp_cons (x c:UInt8) (r:List UInt8) (i f:Nat):cSp x (c::r) i f=if c=x then (f,i)::cSp x r (i+1) (i+1) else cSp x r (i+1) f:=rfl
theorem wSp_cons (c:UInt8) (r:List UInt8) (i f:Nat):wSp (c::r) i f=if c=32 then (if f < i then (f,i)::wSp r (i+1) (i+1) else wSp r (i+1) (i+1)) else wSp r (i+1) f:=rfl
def exB (b:ByteArray) (p:Nat × Nat):ByteArray:=b.extract p.1 p.2
def splitB (x:UInt8) (b:ByteArray):List ByteArray:=(cSp x b.data.toList 0 0).map (exB b)
def linesB (b:ByteArray):List ByteArray:=(lSp b.data.toList 0 0).map (exB b)
def wordsB (b:ByteArray):List ByteArray:=(wSp b.data.toList 0 0).map (exB b)
theorem cSp_lSp (l:List UInt8):∀ (i f:Nat),f≤i→∃ ini a,cSp 10 l i f=ini++[(a,i+l.length)]∧a≤i+l.length∧lSp l i f=if a < i+l.length then ini++[(a,i+l.length)] else ini:=by
  induction l with
  | nil=>intro i f h;exact ⟨[],f,rfl,h,by simp [lSp]⟩
  | cons c r ih =>
    intro i f h;rw [cSp_cons,lSp_cons];have e:i+(c::r).length=i+1+r.length:=by simp;omega
    rw [e];split
    · obtain ⟨ini,a,h1,h2,h3⟩:=ih (i+1) (i+1) (Nat.le_refl _);refine ⟨(f,i)::ini,a,by rw [h1];rfl,h2,?_⟩;rw [h3];split <;> rfl
    · exact ih (i+1) f (by omega)
theorem ex_size {b:ByteArray} {p:Nat × Nat} (h:p.2≤b.size):(exB b p).size=p.2 - p.1:=by unfold exB;rw [ByteArray.size_extract];omega
theorem ex_empty {b:ByteArray} {a:Nat} (h:a≤b.size):exB b (a,b.size)=⟨#[]⟩↔¬ a < b.size:=by
  have hs:=ex_size (b:=b) (p:=(a,b.size)) (Nat.le_refl _);constructor
  · intro e;rw [e] at hs;have:(⟨#[]⟩:ByteArray).size=0:=rfl;simp only at hs;omega
  · intro e;apply ByteArray.ext;apply Array.eq_empty_of_size_eq_zero;have:(exB b (a,b.size)).size=0:=by rw [hs];simp only;omega
    exact this
theorem bsz (b:ByteArray):b.data.toList.length=b.size:=rfl
theorem bget {b:ByteArray} {i:Nat} (h:i < b.size):b[i]?=some (b.data.toList[i]'(by rw [bsz];exact h)):=by rw [getElem?_pos b i h];rfl
theorem drop_at {l:List UInt8} {i:Nat} (h:i < l.length):l.drop i=l[i]::l.drop (i+1):=(List.getElem_cons_drop h).symm
theorem lines_of_split (b:ByteArray) (h:b.size≠0):∃ ini last,splitB 10 b=ini++[last]∧linesB b=if last=⟨#[]⟩ then ini else ini++[last]:=by
  obtain ⟨ini,a,h1,h2,h3⟩:=cSp_lSp b.data.toList 0 0 (Nat.le_refl _);rw [bsz,Nat.zero_add] at h1 h2 h3;refine ⟨ini.map (exB b),exB b (a,b.size),by unfold splitB;rw [h1,List.map_append];rfl,?_⟩;unfold linesB;rw [h3];by_cases ha:a < b.size
  · rw [if_pos ha,if_neg (fun e=>(ex_empty h2).1 e ha),List.map_append];rfl
  · rw [if_neg ha,if_pos ((ex_empty h2).2 ha)]
theorem lines_empty (b:ByteArray) (h:b.size=0):linesB b=[]:=by have:b.data.toList=[]:=List.eq_nil_of_length_eq_zero h;unfold linesB;rw [this];rfl
theorem lSp_hit:∀ (m:List UInt8) (k p f:Nat),(∀ j (h:j < m.length),j < k→m[j]≠10)→(hk:k < m.length)→m[k]=10→lSp m p f=(f,p+k)::lSp (m.drop (k+1)) (p+k+1) (p+k+1)
  | [],k,p,f,_,hk,_=>absurd hk (by simp)
  | c::r,0,p,f,_,hk,h=>by have hc:c=10:=h;rw [lSp_cons,if_pos hc];rfl
  | c::r,k+1,p,f,hn,hk,h=>by have hc:¬ c=10:=hn 0 (by simp) (by omega);rw [lSp_cons,if_neg hc,lSp_hit r k (p+1) f (fun j hj hjk=>hn (j+1) (by simpa using hj) (by omega)) (by simpa using hk) (by simpa using h)];rw [List.drop_succ_cons,show p+1+k=p+(k+1) by omega]
theorem lSp_miss:∀ (m:List UInt8) (p f:Nat),(∀ j (h:j < m.length),m[j]≠10)→lSp m p f=if f < p+m.length then [(f,p+m.length)] else []
  | [],p,f,_=>by simp [lSp]
  | c::r,p,f,hn=>by have hc:¬ c=10:=hn 0 (by simp);rw [lSp_cons,if_neg hc,lSp_miss r (p+1) f (fun j hj=>hn (j+1) (by simpa using hj))];rw [show p+1+r.length=p+(c::r).length by simp;omega]
/-! Numbers. -/
def rdDg (c:UInt8):Bool:=decide (48≤c.toNat)&&decide (c.toNat≤57)
def rdBody:List UInt8→List UInt8
  | []=>[]
  | c::r=>if c=45 then r else c::r
theorem rdBody_cons (c:UInt8) (r:List UInt8):rdBody (c::r)=if c=45 then r else c::r:=rfl
def rdVal (l:List UInt8):Int:=l.foldl (fun n c=>10*n+((c.toNat:Int) - 48)) 0
def rdNeg (l:List UInt8):Bool:=match l with | []=>false | c::_=>decide (c=45)
def rdNum (l:List UInt8):Int:=if rdNeg l then - rdVal (rdBody l) else rdVal (rdBody l)
def readD (b:ByteArray):_root_.Option Int :=
  if 1≤b.size∧b.size≤11∧(rdBody b.data.toList).all rdDg=true∧(-1000000000≤rdNum b.data.toList∧rdNum b.data.toList≤1000000000)∧decS (rdNum b.data.toList)=b then some (rdNum b.data.toList) else none
theorem rdVal_app (a:List UInt8) (c:UInt8):rdVal (a++[c])=10*rdVal a+((c.toNat:Int) - 48):=by unfold rdVal;rw [List.foldl_append];rfl
theorem dg_nat {k:Nat} (h:k < 10):(UInt8.ofNat (48+k)).toNat=48+k:=by rw [UInt8.toNat_ofNat'];omega
theorem dec_val (u:Nat):rdVal (Lib.decDigits u)=(u:Int):=by
  induction u using Nat.strongRecOn with
  | _ u ih =>
    rw [Lib.decDigits];split
    · rename_i h;show 10*0+(((UInt8.ofNat (48+u)).toNat:Int) - 48)=_;rw [dg_nat h];omega
    · rename_i h;rw [rdVal_app,ih (u / 10) (by omega),dg_nat (by omega)];omega
theorem dec_dg (u:Nat):(Lib.decDigits u).all rdDg=true:=by
  induction u using Nat.strongRecOn with
  | _ u ih =>
    rw [Lib.decDigits];split
    · rename_i h;simp [rdDg,dg_nat h];omega
    · rename_i h;have h9:u % 10 < 10:=by omega
      rw [List.all_append,ih (u / 10) (by omega)];simp [rdDg,dg_nat h9];omega
theorem dec_nil (u:Nat):Lib.decDigits u≠[]:=by rw [Lib.decDigits];split <;> simp
theorem dec_neg (u:Nat):rdNeg (Lib.decDigits u)=false:=by
  have h1:=dec_dg u;cases h:Lib.decDigits u with
  | nil=>rfl
  | cons c r=>rw [h] at h1;simp only [List.all_cons,Bool.and_eq_true,rdDg,decide_eq_true_eq] at h1;unfold rdNeg;rw [decide_eq_false_iff_not];intro e;rw [e] at h1;exact absurd h1.1.1 (by decide)
theorem body_dg {l:List UInt8} (h:rdNeg l=false):rdBody l=l:=by
  cases l with
  | nil=>rfl
  | cons c r=>rw [rdBody_cons,if_neg (of_decide_eq_false h)]
theorem itoaS_num (n:Int):rdNum (itoaS n)=n∧(rdBody (itoaS n)).all rdDg=true∧rdBody (itoaS n)≠[]:=by
  unfold itoaS Lib.itoa;split
  · rename_i h;have hb:rdBody (45::Lib.decDigits n.natAbs)=Lib.decDigits n.natAbs:=by rw [rdBody_cons,if_pos rfl]
    refine ⟨?_,by rw [hb];exact dec_dg _,by rw [hb];exact dec_nil _⟩;unfold rdNum;rw [hb,dec_val];have:rdNeg (45::Lib.decDigits n.natAbs)=true:=by unfold rdNeg;exact decide_eq_true rfl
    rw [this];simp only [if_true];omega
  · rename_i h;have hb:=body_dg (dec_neg n.toNat);refine ⟨?_,by rw [hb];exact dec_dg _,by rw [hb];exact dec_nil _⟩;unfold rdNum;rw [hb,dec_val,dec_neg];simp only [Bool.false_eq_true,if_false];omega
theorem decS_data (n:Int):(decS n).data.toList=itoaS n:=by unfold decS;simp
theorem dec_len10:∀ (k u:Nat),u < 10 ^ (k+1)→(Lib.decDigits u).length≤k+1
  | 0,u,h=>by rw [Lib.decDigits,dif_pos (by simpa using h)];simp
  | k+1,u,h=>by
    rw [Lib.decDigits];split
    · simp
    · rw [List.length_append,List.length_singleton];have:=dec_len10 k (u / 10) (by rw [Nat.pow_succ] at h;omega);omega
theorem itoaS_len {n:Int} (h : -1000000000≤n∧n≤1000000000):1≤(itoaS n).length∧(itoaS n).length≤11:=by
  unfold itoaS Lib.itoa;split
  · have h1:=dec_len10 9 n.natAbs (by omega);have h2:0 < (Lib.decDigits n.natAbs).length:=List.length_pos_iff.2 (dec_nil _);simp only [List.length_cons];omega
  · have h1:=dec_len10 9 n.toNat (by omega)
    have h2:0 < (Lib.decDigits n.toNat).length:=List.length_pos_iff.2 (dec_nil _);omega
theorem readD_iff {b:ByteArray} {n:Int}:readD b=some n↔(-1000000000≤n∧n≤1000000000)∧decS n=b:=by
  unfold readD;constructor
  · intro h;split at h
    · rename_i hc;cases h;exact ⟨hc.2.2.2.1,hc.2.2.2.2⟩
    · cases h
  · rintro ⟨hn,rfl⟩;have hd:=decS_data n;have h1:=itoaS_num n;have h2:=itoaS_len hn;have hz:(decS n).size=(itoaS n).length:=by rw [← hd];rfl
    rw [hd,h1.1,if_pos ⟨by omega,by omega,h1.2.1,hn,rfl⟩]
theorem parseM_dec (M:Nat) (hM:M < 18446744073709551616):∀ (l:List UInt8) (acc u:Nat),l.all rdDg=true→(l.foldl (fun n c=>10*n+(c.toNat - 48)) acc)=u→u≤M→Lib.parseUintM M acc l=.ok u
  | [],acc,u,_,h,_=>by simp only [List.foldl_nil] at h;rw [h];rfl
  | c :: r,acc,u,hd,h,hu=>by
    simp only [List.all_cons,Bool.and_eq_true,rdDg,decide_eq_true_eq] at hd;have hmono:∀ (r:List UInt8) (a:Nat),a≤r.foldl (fun n c=>10*n+(c.toNat - 48)) a:=by
      intro r;induction r with
      | nil=>intro a;exact Nat.le_refl _
      | cons c r ih=>intro a;rw [List.foldl_cons];have:=ih (10*a+(c.toNat - 48));omega
    rw [List.foldl_cons] at h;have h1:=hmono r (10*acc+(c.toNat - 48));rw [h] at h1;unfold Lib.parseUintM;rw [if_pos ⟨hd.1.1,hd.1.2⟩,if_neg (by omega),if_neg (by omega)];exact parseM_dec M hM r _ u hd.2 (by rw [Nat.mul_comm acc 10];exact h) hu
theorem dec_valN (u:Nat):(Lib.decDigits u).foldl (fun n c=>10*n+(c.toNat - 48)) 0=u:=by
  induction u using Nat.strongRecOn with
  | _ u ih =>
    rw [Lib.decDigits];split
    · rename_i h;show 10*0+((UInt8.ofNat (48+u)).toNat - 48)=_;rw [dg_nat h];omega
    · rename_i h;rw [List.foldl_append,ih (u / 10) (by omega)];show 10*(u / 10)+((UInt8.ofNat (48+u % 10)).toNat - 48)=_;rw [dg_nat (by omega)];omega
theorem parse_dec {n:Int} (hn : -1000000000≤n∧n≤1000000000):Lib.parseIntB 64 (decS n).data.toList=.ok n:=by
  rw [decS_data];unfold itoaS Lib.itoa;split
  · rename_i h;rw [Lib.parseIntB_minus];unfold Lib.parseUintB;rw [if_neg (dec_nil _),parseM_dec _ (by decide) _ 0 n.natAbs (dec_dg _) (dec_valN _) (by omega)];unfold Lib.signedC;simp only;rw [if_neg (by omega)];congr 1;omega
  · rename_i h;cases hl:Lib.decDigits n.toNat with
    | nil=>exact absurd hl (dec_nil _)
    | cons c r =>
      have hd:=dec_dg n.toNat
      rw [hl] at hd;simp only [List.all_cons,Bool.and_eq_true,rdDg,decide_eq_true_eq] at hd;rw [Lib.parseIntB_plain _ _ _ (by omega) (by omega),← hl];unfold Lib.parseUintB;rw [if_neg (dec_nil _),parseM_dec _ (by decide) _ 0 n.toNat (dec_dg _) (dec_valN _) (by omega)];unfold Lib.signlessC;simp only;rw [if_neg (by omega)];congr 1;omega
def rdNums:List ByteArray→_root_.Option (List Int)
  | []=>some []
  | w :: ws=>match readD w with
    | none=>none
    | some n=>match rdNums ws with
      | none=>none
      | some ns=>some (n::ns)
theorem rdNums_len:∀ {ws:List ByteArray} {ns:List Int},rdNums ws=some ns→ns.length=ws.length
  | [],ns,h=>by cases h;rfl
  | w :: ws,ns,h=>by
    unfold rdNums at h;split at h
    · cases h
    · split at h
      · cases h
      · rename_i ns' e;cases h;simp [rdNums_len e]
theorem rdNums_take:∀ {ws:List ByteArray} {i:Nat} (h:i < ws.length),rdNums (ws.take (i+1))=match rdNums (ws.take i) with
    | none=>none
    | some ns=>match readD ws[i] with
      | none=>none
      | some n=>some (ns++[n])
  | [],i,h=>absurd h (by simp)
  | w::ws,0,h=>by show rdNums [w]=_;simp only [List.take_zero,rdNums,List.getElem_cons_zero,List.nil_append]
  | w :: ws,i+1,h=>by
    have h':i < ws.length:=(by simpa using h);have ih:=rdNums_take (ws:=ws) (i:=i) h';simp only [List.take_succ_cons,List.getElem_cons_succ];unfold rdNums;cases hw:readD w with
    | none=>rfl
    | some n =>
      simp only;rw [ih];cases h1:rdNums (ws.take i) with
      | none=>rfl
      | some ns =>
        simp only;cases h2:readD ws[i] with
        | none=>rfl
        | some k=>rfl
theorem rdNums_none {ws:List ByteArray} {i:Nat} (h:i < ws.length) (hn:readD ws[i]=none):rdNums ws=none:=by
  have key:∀ (k:Nat),rdNums (ws.take (i+1+k))=none:=by
    intro k;induction k with
    | zero =>
      rw [Nat.add_zero,rdNums_take h];cases h1:rdNums (ws.take i) with
      | none=>rfl
      | some ns=>simp [hn]
    | succ k ih =>
      by_cases hk:i+1+k < ws.length
      · rw [show i+1+(k+1)=i+1+k+1 by omega,rdNums_take hk,ih]
      · rw [List.take_of_length_le (by omega)] at ih ⊢;exact ih
  have:=key ws.length;rw [List.take_of_length_le (by omega)] at this;exact this
theorem rdNums_in:∀ {ws:List ByteArray} {ns:List Int},rdNums ws=some ns→∀ n,n∈ns → -1000000000≤n∧n≤1000000000
  | [],ns,h,n,hn=>by cases h;cases hn
  | w :: ws,ns,h,n,hn=>by
    unfold rdNums at h;split at h
    · cases h
    · rename_i k e1;split at h
      · cases h
      · rename_i ns' e;cases h;rcases List.mem_cons.1 hn with rfl | hn
        · exact (readD_iff.1 e1).1
        · exact rdNums_in e n hn
def rdFold {α:Type} (st:Nat→α→ByteArray→Except Int α):List ByteArray→Nat→α→Except (Nat × Int) α
  | [],_,a=>.ok a
  | l::ls,i,a=>match st i a l with
    | .ok a'=>rdFold st ls (i+1) a'
    | .error c=>.error (i+1,c)
theorem get_list {s:ByteArray} {i:Nat} (h:i < s.size):s.get! i=s.data.toList[i]'h:=by show s.data[i]! = _;rw [getElem!_pos s.data i h];rfl
theorem decode_span (s:ByteArray) (pos:Nat) (h:pos < s.size):1≤(Utf8.decode s pos).2∧pos+(Utf8.decode s pos).2≤s.size∧∀ j,0 < j→j < (Utf8.decode s pos).2→128≤(s.get! (pos+j)).toNat:=by
  unfold Utf8.decode;simp only;have one:∀ r:Nat,1≤(r,1).2∧pos+(r,1).2≤s.size∧∀ j,0 < j→j < (r,1).2→128≤(s.get! (pos+j)).toNat:=fun r=>⟨Nat.le_refl _,h,fun j h1 h2=>absurd h2 (by simp only;omega)⟩
  split
  · exact one _
  · split
    · rename_i h2;simp only [Bool.and_eq_true,decide_eq_true_eq,beq_iff_eq] at h2;split
      · refine ⟨by simp only;omega,by simp only;omega,fun j h3 h4=>?_⟩;simp only at h4;have:j=1:=by omega
        subst this;omega
      · exact one _
    · split
      · rename_i h2;simp only [Bool.and_eq_true,decide_eq_true_eq,beq_iff_eq] at h2;split
        · refine ⟨by simp only;omega,by simp only;omega,fun j h3 h4=>?_⟩;simp only at h4;have:j=1∨j=2:=by omega
          rcases this with rfl | rfl <;> omega
        · exact one _
      · split
        · rename_i h2;simp only [Bool.and_eq_true,decide_eq_true_eq,beq_iff_eq] at h2;split
          · refine ⟨by simp only;omega,by simp only;omega,fun j h3 h4=>?_⟩;simp only at h4;have:j=1∨j=2∨j=3:=by omega
            rcases this with rfl | rfl | rfl <;> omega
          · exact one _
        · exact one _
theorem wSp_skip:∀ (k:Nat) (l:List UInt8) (p f:Nat),k≤l.length→(∀ j (h:j < l.length),j < k→l[j]≠32)→wSp l p f=wSp (l.drop k) (p+k) f
  | 0,l,p,f,_,_=>by rw [List.drop_zero,Nat.add_zero]
  | k+1,[],p,f,hk,_=>absurd hk (by simp)
  | k+1,c::r,p,f,hk,hn=>by have hc:¬ c=32:=hn 0 (by simp) (by omega);rw [wSp_cons,if_neg hc,List.drop_succ_cons,wSp_skip k r (p+1) f (by simpa using hk) (fun j h hj=>hn (j+1) (by simpa using h) (by omega))];rw [show p+1+k=p+(k+1) by omega]
def isBl (r:Nat):Bool:=r==32
theorem spans_words (s:ByteArray):∀ (f pos:Nat) (st:_root_.Option Nat) (acc:List (Nat × Nat)),pos≤s.size→s.size - pos≤f→(∀ a,st=some a→a < pos)→Lib.closeSpans s (Lib.spansFromP isBl s f pos st acc)=acc++wSp (s.data.toList.drop pos) pos (st.getD pos)
  | 0,pos,st,acc,h1,h2,h3=>by
    have:pos=s.size:=(by omega);subst this;rw [List.drop_of_length_le (by rw [bsz];exact Nat.le_refl _)];cases st with
    | none=>simp [Lib.spansFromP,Lib.closeSpans,wSp]
    | some a=>simp [Lib.spansFromP,Lib.closeSpans,wSp,h3 a rfl]
  | f + 1,pos,st,acc,h1,h2,h3=>by
    unfold Lib.spansFromP;by_cases hp:pos < s.size
    · rw [if_pos hp];obtain ⟨d1,d2,d3⟩:=decode_span s pos hp;have hd:=drop_at (l:=s.data.toList) (i:=pos) hp;by_cases hb:(s[pos]'hp).toNat < 128
      · have hdec:=Go.decode_ascii s pos hp hb;rw [hdec] at d1 d2 d3 ⊢;by_cases hc:s.data.toList[pos]'hp=32
        · have hbl:isBl (s[pos]'hp).toNat=true:=(by have:s[pos]'hp=32:=hc;rw [this];rfl);simp only [hbl,if_true];rw [hd,wSp_cons,if_pos hc];cases st with
          | none=>simp only [_root_.Option.getD_none,Nat.lt_irrefl,if_false];rw [spans_words s f (pos+1) none acc hp (by omega) (fun a ha=>by cases ha)];rfl
          | some a=>simp only [_root_.Option.getD_some,if_pos (h3 a rfl)];rw [spans_words s f (pos+1) none (acc++[(a,pos)]) hp (by omega) (fun a ha=>by cases ha),List.append_assoc];rfl
        · have hbl:isBl (s[pos]'hp).toNat=false:=(by unfold isBl;rw [beq_eq_false_iff_ne];intro e;exact hc (UInt8.toNat_inj.1 e));simp only [hbl,Bool.false_eq_true,if_false];rw [hd,wSp_cons,if_neg hc];cases st with
          | none=>simp only [_root_.Option.getD_none];rw [spans_words s f (pos+1) (some pos) acc hp (by omega) (fun a ha=>by cases ha;omega)];rfl
          | some a=>simp only [_root_.Option.getD_some];rw [spans_words s f (pos+1) (some a) acc hp (by omega) (fun a' ha=>by cases ha;have:=h3 a rfl;omega)];rfl
      · have hhi:=Go.decode_high s pos hp (by omega);have hbl:isBl (Utf8.decode s pos).1=false:=(by unfold isBl;rw [beq_eq_false_iff_ne];omega);simp only [hbl,Bool.false_eq_true,if_false];have hsk:∀ g,wSp (s.data.toList.drop pos) pos g=wSp (s.data.toList.drop (pos+(Utf8.decode s pos).2)) (pos+(Utf8.decode s pos).2) g:=by
          intro g;rw [wSp_skip (Utf8.decode s pos).2 (s.data.toList.drop pos) pos g (by rw [List.length_drop,bsz];omega) ?_,List.drop_drop];intro j hj hjk;rw [List.getElem_drop];intro e;have hjs:pos+j < s.size:=by omega
          have e2:=get_list hjs;by_cases h0:j=0
          · subst h0;have:(s[pos]'hp)=32:=e;rw [this] at hb;exact hb (by decide)
          · have:=d3 j (by omega) hjk;rw [e2,e] at this;exact absurd this (by decide)
        rw [hsk];cases st with
        | none=>simp only [_root_.Option.getD_none];rw [spans_words s f _ (some pos) acc d2 (by omega) (fun a ha=>by cases ha;omega)];rfl
        | some a=>simp only [_root_.Option.getD_some];rw [spans_words s f _ (some a) acc d2 (by omega) (fun a' ha=>by cases ha;have:=h3 a rfl;omega)];rfl
    · rw [if_neg hp];have:pos=s.size:=by omega
      subst this;rw [List.drop_of_length_le (by rw [bsz];exact Nat.le_refl _)];cases st with
      | none=>simp [Lib.closeSpans,wSp]
      | some a=>simp [Lib.closeSpans,wSp,h3 a rfl]
theorem goFields_words (s:ByteArray):Lib.goFieldsP isBl s=wordsB s:=by unfold Lib.goFieldsP Lib.spansOfP wordsB;rw [spans_words s s.size 0 none [] (Nat.zero_le _) (by omega) (fun a ha=>by cases ha)];rfl
end Go.Proofs.YtjkbngjiagknkaaGreatDoor
