/- Laws that the proof stands on. -/
import Derived.Lib.ParseIntBCases
import Derived.Test.YtdlchnlpmofpmaaGreatDoorZg16
import Derived.Lib.FieldsP
import Derived.Laws.RangeAny
import Derived.Test.YtdlchnlpmofpmaaGreatDoorZVB
import Derived.Test.YtdlchnlpmofpmaaGreatDoorZg14
import Derived.Test.YtdlchnlpmofpmaaGreatDoorZg5
import Derived.Test.YtdlchnlpmofpmaaGreatDoorZVTab
import Derived.Test.YtdlchnlpmofpmaaGreatDoorZg12
set_option linter.all false
namespace Go.Proofs.YtdlchnlpmofpmaaGreatDoor
open Go.RowKit Go.V
set_option maxRecDepth 100000
/-! A string cut at each byte x. -/
def cSp (x:UInt8):List UInt8→Nat→Nat→List (Nat×Nat)
  | [],i,f=>[(f,i)]
  | c::r,i,f=>if c=x then (f,i)::cSp x r (i+1) (i+1) else cSp x r (i+1) f
def lSp:List UInt8→Nat→Nat→List (Nat×Nat)
  | [],i,f=>if f<i then [(f,i)] else []
  | c::r,i,f=>if c=10 then (f,i)::lSp r (i+1) (i+1) else lSp r (i+1) f
def wSp:List UInt8→Nat→Nat→List (Nat×Nat)
  | [],i,f=>if f<i then [(f,i)] else []
  | c::r,i,f=>if c=32 then (if f<i then (f,i)::wSp r (i+1) (i+1) else wSp r (i+1) (i+1)) else wSp r (i+1) f
theorem zIr (c:UInt8)(r:List UInt8)(i f:Nat):lSp (c::r) i f=if c=10 then (f,i)::lSp r (i+1) (i+1) else lSp r (i+1) f:=rfl
theorem zFo (x c:UInt8)(r:List UInt8)(i f:Nat):cSp x (c::r) i f=if c=x then (f,i)::cSp x r (i+1) (i+1) else cSp x r (i+1) f:=rfl
theorem zHz (c:UInt8)(r:List UInt8)(i f:Nat):wSp (c::r) i f=if c=32 then (if f<i then (f,i)::wSp r (i+1) (i+1) else wSp r (i+1) (i+1)) else wSp r (i+1) f:=rfl
def exB (b:ByteArray)(p:Nat×Nat):ByteArray:=b.extract p.1 p.2
def splitB (x:UInt8)(b:ByteArray):List ByteArray:=(cSp x b.data.toList 0 0).map (exB b)
def zA5 (b:ByteArray):List ByteArray:=(lSp b.data.toList 0 0).map (exB b)
def zBk (b:ByteArray):List ByteArray:=(wSp b.data.toList 0 0).map (exB b)
theorem yPv (l:List UInt8):∀ (i f:Nat),f≤i→∃ ini a,cSp 10 l i f=ini++[(a,i+l.length)]∧a≤i+l.length∧lSp l i f=if a<i+l.length then ini++[(a,i+l.length)] else ini:=by
  induction l with
  | nil=>intro i f h;exact ⟨[],f,rfl,h,by simp [lSp]⟩
  | cons c r ih =>
    intro i f h;rw [zFo,zIr];have e:i+(c::r).length=i+1+r.length:=by simp;omega
    rw [e];split
    · obtain ⟨ini,a,h1,h2,h3⟩:=ih (i+1) (i+1) (Nat.le_refl _);refine ⟨(f,i)::ini,a,by rw [h1];rfl,h2,?_⟩;rw [h3];split<;>rfl
    · exact ih (i+1) f (by omega)
theorem yOz {b:ByteArray}{p:Nat×Nat}(h:p.2≤b.size):(exB b p).size=p.2-p.1:=by unfold exB;rw [ByteArray.size_extract];omega
theorem zV1 {b:ByteArray}{a:Nat}(h:a≤b.size):exB b (a,b.size)=⟨#[]⟩↔¬ a<b.size:=by
  have hs:=yOz (b:=b) (p:=(a,b.size)) (Nat.le_refl _);constructor
  · intro e;rw [e] at hs;have:(⟨#[]⟩:ByteArray).size=0:=rfl;simp only at hs;omega
  · intro e;apply ByteArray.ext;apply Array.eq_empty_of_size_eq_zero;have:(exB b (a,b.size)).size=0:=by rw [hs];simp only;omega
    exact this
theorem bsz (b:ByteArray):b.data.toList.length=b.size:=rfl
theorem yVq {b:ByteArray}{i:Nat}(h:i<b.size):b[i]?=some (b.data.toList[i]'(by rw [bsz];exact h)):=by rw [getElem?_pos b i h];rfl
theorem drop_at {l:List UInt8}{i:Nat}(h:i<l.length):l.drop i=l[i]::l.drop (i+1):=(List.getElem_cons_drop h).symm
theorem zN3 (b:ByteArray)(h:b.size≠0):∃ ini last,splitB 10 b=ini++[last]∧zA5 b=if last=⟨#[]⟩ then ini else ini++[last]:=by
  obtain ⟨ini,a,h1,h2,h3⟩:=yPv b.data.toList 0 0 (Nat.le_refl _);rw [bsz,Nat.zero_add] at h1 h2 h3;refine ⟨ini.map (exB b),exB b (a,b.size),by unfold splitB;rw [h1,List.map_append];rfl,?_⟩;unfold zA5;rw [h3];by_cases ha:a<b.size
  · rw [if_pos ha,if_neg (fun e=>(zV1 h2).1 e ha),List.map_append];rfl
  · rw [if_neg ha,if_pos ((zV1 h2).2 ha)]
theorem zT5 (b:ByteArray)(h:b.size=0):zA5 b=[]:=by have:b.data.toList=[]:=List.eq_nil_of_length_eq_zero h;unfold zA5;rw [this];rfl
theorem yCp:∀ (m:List UInt8) (k p f:Nat),(∀ j (h:j<m.length),j<k→m[j]≠10)→(hk:k<m.length)→m[k]=10→lSp m p f=(f,p+k)::lSp (m.drop (k+1)) (p+k+1) (p+k+1)
  | [],k,p,f,_,hk,_=>absurd hk (by simp)
  | c::r,0,p,f,_,hk,h=>by have hc:c=10:=h;rw [zIr,if_pos hc];rfl
  | c::r,k+1,p,f,hn,hk,h=>by have hc:¬ c=10:=hn 0 (by simp) (by omega);rw [zIr,if_neg hc,yCp r k (p+1) f (fun j hj hjk=>hn (j+1) (by simpa using hj) (by omega)) (by simpa using hk) (by simpa using h)];rw [List.drop_succ_cons,show p+1+k=p+(k+1) by omega]
theorem zVu:∀ (m:List UInt8) (p f:Nat),(∀ j (h:j<m.length),m[j]≠10)→lSp m p f=if f<p+m.length then [(f,p+m.length)] else []
  | [],p,f,_=>by simp [lSp]
  | c::r,p,f,hn=>by have hc:¬ c=10:=hn 0 (by simp);rw [zIr,if_neg hc,zVu r (p+1) f (fun j hj=>hn (j+1) (by simpa using hj))];rw [show p+1+r.length=p+(c::r).length by simp;omega]
/-! Numbers. -/
def zMd (c:UInt8):Bool:=decide (48≤c.toNat)&&decide (c.toNat≤57)
def zB4:List UInt8→List UInt8
  | []=>[]
  | c::r=>if c=45 then r else c::r
theorem zCk (c:UInt8)(r:List UInt8):zB4 (c::r)=if c=45 then r else c::r:=rfl
def zFt (l:List UInt8):Int:=l.foldl (fun n c=>10*n+((c.toNat:Int)-48)) 0
def zRu (l:List UInt8):Bool:=match l with | []=>false | c::_=>decide (c=45)
def rdNum (l:List UInt8):Int:=if zRu l then-zFt (zB4 l) else zFt (zB4 l)
def zBu (b:ByteArray):_root_.Option Int :=
  if 1≤b.size∧b.size≤11∧(zB4 b.data.toList).all zMd=true∧(-1000000000≤rdNum b.data.toList∧rdNum b.data.toList≤1000000000)∧zQx (rdNum b.data.toList)=b then some (rdNum b.data.toList) else none
theorem zRt (a:List UInt8)(c:UInt8):zFt (a++[c])=10*zFt a+((c.toNat:Int)-48):=by unfold zFt;rw [List.foldl_append];rfl
theorem zO5 {k:Nat}(h:k<10):(UInt8.ofNat (48+k)).toNat=48+k:=by rw [UInt8.toNat_ofNat'];omega
theorem yDm (u:Nat):zFt (Lib.decDigits u)=(u:Int):=by
  induction u using Nat.strongRecOn with
  | _ u ih =>
    rw [Lib.decDigits];split
    · rename_i h;show 10*0+(((UInt8.ofNat (48+u)).toNat:Int)-48)=_;rw [zO5 h];omega
    · rename_i h;rw [zRt,ih (u / 10) (by omega),zO5 (by omega)];omega
theorem zO6 (u:Nat):(Lib.decDigits u).all zMd=true:=by
  induction u using Nat.strongRecOn with
  | _ u ih =>
    rw [Lib.decDigits];split
    · rename_i h;simp [zMd,zO5 h];omega
    · rename_i h;have h9:u % 10<10:=by omega
      rw [List.all_append,ih (u / 10) (by omega)];simp [zMd,zO5 h9];omega
theorem zHq (u:Nat):Lib.decDigits u≠[]:=by rw [Lib.decDigits];split<;>simp
theorem yDn (u:Nat):zRu (Lib.decDigits u)=false:=by
  have h1:=zO6 u;cases h:Lib.decDigits u with
  | nil=>rfl
  | cons c r=>rw [h] at h1;simp only [List.all_cons,Bool.and_eq_true,zMd,decide_eq_true_eq] at h1;unfold zRu;rw [decide_eq_false_iff_not];intro e;rw [e] at h1;exact absurd h1.1.1 (by decide)
theorem yP2 {l:List UInt8}(h:zRu l=false):zB4 l=l:=by
  cases l with
  | nil=>rfl
  | cons c r=>rw [zCk,if_neg (of_decide_eq_false h)]
theorem yCw (n:Int):rdNum (zFv n)=n∧(zB4 (zFv n)).all zMd=true∧zB4 (zFv n)≠[]:=by
  unfold zFv Lib.itoa;split
  · rename_i h;have hb:zB4 (45::Lib.decDigits n.natAbs)=Lib.decDigits n.natAbs:=by rw [zCk,if_pos rfl]
    refine ⟨?_,by rw [hb];exact zO6 _,by rw [hb];exact zHq _⟩;unfold rdNum;rw [hb,yDm];have:zRu (45::Lib.decDigits n.natAbs)=true:=by unfold zRu;exact decide_eq_true rfl
    rw [this];simp only [if_true];omega
  · rename_i h;have hb:=yP2 (yDn n.toNat);refine ⟨?_,by rw [hb];exact zO6 _,by rw [hb];exact zHq _⟩;unfold rdNum;rw [hb,yDm,yDn];simp only [Bool.false_eq_true,if_false];omega
theorem zSq (n:Int):(zQx n).data.toList=zFv n:=by unfold zQx;simp
theorem zM9:∀ (k u:Nat),u<10 ^ (k+1)→(Lib.decDigits u).length≤k+1
  | 0,u,h=>by rw [Lib.decDigits,dif_pos (by simpa using h)];simp
  | k+1,u,h=>by
    rw [Lib.decDigits];split
    · simp
    · rw [List.length_append,List.length_singleton];have:=zM9 k (u / 10) (by rw [Nat.pow_succ] at h;omega);omega
theorem yCx {n:Int}(h : -1000000000≤n∧n≤1000000000):1≤(zFv n).length∧(zFv n).length≤11:=by
  unfold zFv Lib.itoa;split
  · have h1:=zM9 9 n.natAbs (by omega);have h2:0<(Lib.decDigits n.natAbs).length:=List.length_pos_iff.2 (zHq _);simp only [List.length_cons];omega
  · have h1:=zM9 9 n.toNat (by omega)
    have h2:0<(Lib.decDigits n.toNat).length:=List.length_pos_iff.2 (zHq _);omega
theorem readD_iff {b:ByteArray}{n:Int}:zBu b=some n↔(-1000000000≤n∧n≤1000000000)∧zQx n=b:=by
  unfold zBu;constructor
  · intro h;split at h
    · rename_i hc;cases h;exact ⟨hc.2.2.2.1,hc.2.2.2.2⟩
    · cases h
  · rintro ⟨hn,rfl⟩;have hd:=zSq n;have h1:=yCw n;have h2:=yCx hn;have hz:(zQx n).size=(zFv n).length:=by rw [← hd];rfl
    rw [hd,h1.1,if_pos ⟨by omega,by omega,h1.2.1,hn,rfl⟩]
theorem zJq (M:Nat)(hM:M<18446744073709551616):∀ (l:List UInt8) (acc u:Nat),l.all zMd=true→(l.foldl (fun n c=>10*n+(c.toNat-48)) acc)=u→u≤M→Lib.parseUintM M acc l=.ok u
  | [],acc,u,_,h,_=>by simp only [List.foldl_nil] at h;rw [h];rfl
  | c :: r,acc,u,hd,h,hu=>by
    simp only [List.all_cons,Bool.and_eq_true,zMd,decide_eq_true_eq] at hd;have hmono:∀ (r:List UInt8) (a:Nat),a≤r.foldl (fun n c=>10*n+(c.toNat-48)) a:=by
      intro r;induction r with
      | nil=>intro a;exact Nat.le_refl _
      | cons c r ih=>intro a;rw [List.foldl_cons];have:=ih (10*a+(c.toNat-48));omega
    rw [List.foldl_cons] at h;have h1:=hmono r (10*acc+(c.toNat-48));rw [h] at h1;unfold Lib.parseUintM;rw [if_pos ⟨hd.1.1,hd.1.2⟩,if_neg (by omega),if_neg (by omega)];exact zJq M hM r _ u hd.2 (by rw [Nat.mul_comm acc 10];exact h) hu
theorem zV5 (u:Nat):(Lib.decDigits u).foldl (fun n c=>10*n+(c.toNat-48)) 0=u:=by
  induction u using Nat.strongRecOn with
  | _ u ih =>
    rw [Lib.decDigits];split
    · rename_i h;show 10*0+((UInt8.ofNat (48+u)).toNat-48)=_;rw [zO5 h];omega
    · rename_i h;rw [List.foldl_append,ih (u / 10) (by omega)];show 10*(u / 10)+((UInt8.ofNat (48+u % 10)).toNat-48)=_;rw [zO5 (by omega)];omega
theorem zIf {n:Int}(hn : -1000000000≤n∧n≤1000000000):Lib.parseIntB 64 (zQx n).data.toList=.ok n:=by
  rw [zSq];unfold zFv Lib.itoa;split
  · rename_i h;rw [Lib.parseIntB_minus];unfold Lib.parseUintB;rw [if_neg (zHq _),zJq _ (by decide) _ 0 n.natAbs (zO6 _) (zV5 _) (by omega)];unfold Lib.signedC;simp only;rw [if_neg (by omega)];congr 1;omega
  · rename_i h;cases hl:Lib.decDigits n.toNat with
    | nil=>exact absurd hl (zHq _)
    | cons c r =>
      have hd:=zO6 n.toNat
      rw [hl] at hd;simp only [List.all_cons,Bool.and_eq_true,zMd,decide_eq_true_eq] at hd;rw [Lib.parseIntB_plain _ _ _ (by omega) (by omega),← hl];unfold Lib.parseUintB;rw [if_neg (zHq _),zJq _ (by decide) _ 0 n.toNat (zO6 _) (zV5 _) (by omega)];unfold Lib.signlessC;simp only;rw [if_neg (by omega)];congr 1;omega
def zCj {α:Type} (st:Nat→α→ByteArray→Except Int α):List ByteArray→Nat→α→Except (Nat×Int) α
  | [],_,a=>.ok a
  | l::ls,i,a=>match st i a l with
    | .ok a'=>zCj st ls (i+1) a'
    | .error c=>.error (i+1,c)
theorem zLp (a:Point):zB6 a a=false:=by simp [zB6]
theorem zP3 {a b c:Point}(h1:zB6 a b=true)(h2:zB6 b c=true):zB6 a c=true:=by simp only [zB6,Bool.or_eq_true,Bool.and_eq_true,decide_eq_true_eq] at *;omega
theorem yN5 {a b:Point}(h:zB6 a b=true):zB6 b a=false:=by
  cases h2:zB6 b a with
  | false=>rfl
  | true=>have:=zP3 h h2;rw [zLp] at this;cases this
theorem zT6 {a b:Point}(h1:zB6 a b=false)(h2:zB6 b a=false):a=b:=by obtain ⟨ax,ay⟩:=a;obtain ⟨bx,bY⟩:=b;simp only [zB6,Bool.or_eq_false_iff,Bool.and_eq_false_iff,decide_eq_false_iff_not,Point.mk.injEq] at *;omega
theorem zQq {f:Nat→Bool}:∀ n i j,j-i≤n→i≤j→(∀ k,k<i→f k=true)→(∀ k l,k<l→l<j→f l=true→f k=true)→(∀ k,k<bsF f n i j→f k=true)∧(∀ k,bsF f n i j≤k→k<j→f k=false)
  | 0,i,j,h,hij,hlo,_=>⟨hlo,fun k h1 h2=>absurd h2 (by simp only [bsF] at h1;omega)⟩
  | n + 1,i,j,h,hij,hlo,hm=>by
    by_cases hlt:i<j
    · have hm2:(i+j) / 2<j:=(by omega);have hm1:i≤(i+j) / 2:=(by omega);cases hf:f ((i+j) / 2) with
      | true =>
        have e:bsF f (n+1) i j=bsF f n ((i+j) / 2+1) j:=(by simp only [bsF,if_pos hlt,hf,if_true]);rw [e];refine zQq n _ _ (by omega) (by omega) (fun k hk=>?_) hm;by_cases hk2:k=(i+j) / 2
        · rw [hk2];exact hf
        · exact hm k _ (by omega) hm2 hf
      | false =>
        have e:bsF f (n+1) i j=bsF f n i ((i+j) / 2):=(by simp only [bsF,if_pos hlt,hf];rfl);rw [e];obtain ⟨h1,h2⟩:=zQq (f:=f) n i ((i+j) / 2) (by omega) hm1 hlo (fun k l hk hl=>hm k l hk (by omega));refine ⟨h1,fun k hk hkj=>?_⟩;by_cases hk2:k<(i+j) / 2
        · exact h2 k hk hk2
        · cases hfk:f k with
          | false=>rfl
          | true =>
            by_cases hk3:k=(i+j) / 2
            · rw [hk3,hf] at hfk;cases hfk
            · have:=hm ((i+j) / 2) k (by omega) hkj hfk;rw [hf] at this;cases this
    · rw [yD0 hlt];exact ⟨hlo,fun k h1 h2=>absurd h2 (by omega)⟩
def zD8 (ps:List Placed):Prop:=ps.Pairwise fun x y=>zB6 x.At y.At=true
theorem zRc {ps:List Placed}(h:zD8 ps){i j:Nat}(hij:i<j)(hj:j<ps.length):zB6 (ps[i]'(by omega)).At ps[j].At=true :=
  List.pairwise_iff_getElem.1 h i j (by omega) hj hij
theorem yJe {ps:List Placed}(h:zD8 ps){i:Nat}(hi:i<ps.length):bsA ps ps[i].At=i:=by
  have hl:(ps.map (·.At)).length=ps.length:=List.length_map ..;have key:=zQq (f:=zOx (ps.map (·.At)) ps[i].At) ps.length 0 ps.length (by omega) (Nat.zero_le _) (fun k hk=>absurd hk (by omega)) (fun k l hkl hl2 hf=>by
    rw [zGa hl2] at hf;rw [zGa (by omega)];exact zP3 (zRc h hkl hl2) hf)
  have e:bsA ps ps[i].At=bsF (zOx (ps.map (·.At)) ps[i].At) ps.length 0 ps.length:=(by unfold bsA bsP;rw [hl]);rw [← e] at key;obtain ⟨k1,k2⟩:=key;have h1:¬ i<bsA ps ps[i].At:=fun hlt=>by have:=k1 i hlt;rw [zGa hi,zLp] at this;cases this
  have h2:¬ bsA ps ps[i].At<i:=fun hlt=>by have:=k2 _ (Nat.le_refl _) (by omega);rw [zGa (by omega)] at this;have h3:=zRc h hlt hi;rw [h3] at this;cases this
  omega
theorem yQp {ps:List Placed}(h:zD8 ps){x:Placed}(hx:x∈ps):atP ps x.At=true∧yEz ps x.At=x.Tile:=by obtain ⟨i,hi,rfl⟩:=List.getElem_of_mem hx;have e:=yJe h hi;have h1:atP ps ps[i].At=true:=(by unfold atP;rw [e,List.getElem?_eq_getElem hi];simp);refine ⟨h1,?_⟩;unfold yEz;rw [h1,if_pos rfl,e,List.getElem?_eq_getElem hi]
theorem yU4 {ps:List Placed}{p:Point}(h:∀ x,x∈ps→x.At≠p):atP ps p=false∧yEz ps p = -1:=by
  have h1:atP ps p=false:=by
    cases ha:atP ps p with
    | false=>rfl
    | true=>obtain ⟨hb,e⟩:=yU5 ha;exact absurd e (h _ (List.getElem_mem hb))
  refine ⟨h1,?_⟩;unfold yEz;rw [h1];rfl
/-! joined: the program's way -/
def yQ2 (x:Placed):List Placed→List Placed
  | []=>[x]
  | y::ys=>if zB6 y.At x.At then y::yQ2 x ys else x::y::ys
def zL8 (xs:List Placed):List Placed:=xs.foldr yQ2 []
theorem zM4 (x:Placed):∀ ys,(yQ2 x ys).Perm (x::ys)
  | []=>List.Perm.refl _
  | y::ys=>by
    unfold yQ2;split
    · exact ((zM4 x ys).cons y).trans (List.Perm.swap x y ys)
    · exact List.Perm.refl _
theorem zD6:∀ xs,(zL8 xs).Perm xs
  | []=>List.Perm.refl _
  | x::xs=>(zM4 x (zL8 xs)).trans ((zD6 xs).cons x)
theorem zM3 {x:Placed}:∀ {ys:List Placed},zD8 ys→(∀ y,y∈ys→y.At≠x.At)→zD8 (yQ2 x ys)
  | [],_,_=>List.pairwise_singleton ..
  | y :: ys,h,hn=>by
    have h':=List.pairwise_cons.1 h;unfold yQ2;split
    · rename_i hyx;refine List.pairwise_cons.2 ⟨fun z hz=>?_,zM3 h'.2 (fun z hz=>hn z (by simp [hz]))⟩;rcases List.mem_cons.1 ((zM4 x ys).mem_iff.1 hz) with rfl | hz
      · exact hyx
      · exact h'.1 z hz
    · rename_i hyx;have hxy:zB6 x.At y.At=true:=by
        cases hc:zB6 x.At y.At with
        | true=>rfl
        | false=>exact absurd (zT6 hc (by simpa using hyx)).symm (hn y (by simp))
      refine List.pairwise_cons.2 ⟨fun z hz=>?_,h⟩;rcases List.mem_cons.1 hz with rfl | hz
      · exact hxy
      · exact zP3 hxy (h'.1 z hz)
theorem zF3:∀ {xs:List Placed},xs.Pairwise (fun x y=>x.At≠y.At)→zD8 (zL8 xs)
  | [],_=>List.Pairwise.nil
  | x::xs,h=>by have h':=List.pairwise_cons.1 h;exact zM3 (zF3 h'.2) (fun y hy=>fun e=>h'.1 y ((zD6 xs).mem_iff.1 hy) e.symm)
theorem zHc:∀ {xs ys:List Placed},zD8 xs→zD8 ys→(∀ x,x∈xs↔x∈ys)→xs=ys
  | [],[],_,_,_=>rfl
  | [],y::ys,_,_,h=>absurd ((h y).2 (by simp)) (by simp)
  | x::xs,[],_,_,h=>absurd ((h x).1 (by simp)) (by simp)
  | x :: xs,y::ys,hx,hy,h=>by
    have hx':=List.pairwise_cons.1 hx;have hy':=List.pairwise_cons.1 hy;have e:x=y:=by
      rcases List.mem_cons.1 ((h x).1 (by simp)) with e | h1
      · exact e
      · rcases List.mem_cons.1 ((h y).2 (by simp)) with e | h2
        · exact e.symm
        · have a:=hy'.1 x h1;have b:=hx'.1 y h2;rw [yN5 a] at b;cases b
    subst e;congr 1;refine zHc hx'.2 hy'.2 (fun z=>⟨fun hz=>?_,fun hz=>?_⟩)
    · rcases List.mem_cons.1 ((h z).1 (by simp [hz])) with e | h1
      · have:=hx'.1 z hz;rw [e,zLp] at this;cases this
      · exact h1
    · rcases List.mem_cons.1 ((h z).2 (by simp [hz])) with e | h1
      · have:=hy'.1 z hz;rw [e,zLp] at this;cases this
      · exact h1
/-! the reference's way -/
theorem yIo {s:ByteArray}{i:Nat}(h:i<s.size):s.get! i=s.data.toList[i]'h:=by show s.data[i]! = _;rw [getElem!_pos s.data i h];rfl
theorem zUk (s:ByteArray) (pos:Nat) (h:pos<s.size):1≤(Utf8.decode s pos).2∧pos+(Utf8.decode s pos).2≤s.size∧∀ j,0<j→j<(Utf8.decode s pos).2→128≤(s.get! (pos+j)).toNat:=by
  unfold Utf8.decode;simp only;have one:∀ r:Nat,1≤(r,1).2∧pos+(r,1).2≤s.size∧∀ j,0<j→j<(r,1).2→128≤(s.get! (pos+j)).toNat:=fun r=>⟨Nat.le_refl _,h,fun j h1 h2=>absurd h2 (by simp only;omega)⟩
  split
  · exact one _
  · split
    · rename_i h2;simp only [Bool.and_eq_true,decide_eq_true_eq,beq_iff_eq] at h2;split
      · refine ⟨by simp only;omega,by simp only;omega,fun j h3 h4=>?_⟩;simp only at h4;have:j=1:=by omega
        subst this;omega
      · exact one _
    · split
      · rename_i h2;simp only [Bool.and_eq_true,decide_eq_true_eq,beq_iff_eq] at h2;split
        · refine ⟨by simp only;omega,by simp only;omega,fun j h3 h4=>?_⟩;simp only at h4;have:j=1∨j=2:=by omega
          rcases this with rfl | rfl<;>omega
        · exact one _
      · split
        · rename_i h2;simp only [Bool.and_eq_true,decide_eq_true_eq,beq_iff_eq] at h2;split
          · refine ⟨by simp only;omega,by simp only;omega,fun j h3 h4=>?_⟩;simp only at h4;have:j=1∨j=2∨j=3:=by omega
            rcases this with rfl | rfl | rfl<;>omega
          · exact one _
        · exact one _
theorem zU3:∀ (k:Nat) (l:List UInt8) (p f:Nat),k≤l.length→(∀ j (h:j<l.length),j<k→l[j]≠32)→wSp l p f=wSp (l.drop k) (p+k) f
  | 0,l,p,f,_,_=>by rw [List.drop_zero,Nat.add_zero]
  | k+1,[],p,f,hk,_=>absurd hk (by simp)
  | k+1,c::r,p,f,hk,hn=>by have hc:¬ c=32:=hn 0 (by simp) (by omega);rw [zHz,if_neg hc,List.drop_succ_cons,zU3 k r (p+1) f (by simpa using hk) (fun j h hj=>hn (j+1) (by simpa using h) (by omega))];rw [show p+1+k=p+(k+1) by omega]
def zZg (r:Nat):Bool:=r==32
theorem zCu (s:ByteArray):∀ (f pos:Nat) (st:_root_.Option Nat) (acc:List (Nat×Nat)),pos≤s.size→s.size-pos≤f→(∀ a,st=some a→a<pos)→Lib.closeSpans s (Lib.spansFromP zZg s f pos st acc)=acc++wSp (s.data.toList.drop pos) pos (st.getD pos)
  | 0,pos,st,acc,h1,h2,h3=>by
    have:pos=s.size:=(by omega);subst this;rw [List.drop_of_length_le (by rw [bsz];exact Nat.le_refl _)];cases st with
    | none=>simp [Lib.spansFromP,Lib.closeSpans,wSp]
    | some a=>simp [Lib.spansFromP,Lib.closeSpans,wSp,h3 a rfl]
  | f + 1,pos,st,acc,h1,h2,h3=>by
    unfold Lib.spansFromP;by_cases hp:pos<s.size
    · rw [if_pos hp];obtain ⟨d1,d2,d3⟩:=zUk s pos hp;have hd:=drop_at (l:=s.data.toList) (i:=pos) hp;by_cases hb:(s[pos]'hp).toNat<128
      · have hdec:=Go.decode_ascii s pos hp hb;rw [hdec] at d1 d2 d3 ⊢;by_cases hc:s.data.toList[pos]'hp=32
        · have hbl:zZg (s[pos]'hp).toNat=true:=(by have:s[pos]'hp=32:=hc;rw [this];rfl);simp only [hbl,if_true];rw [hd,zHz,if_pos hc];cases st with
          | none=>simp only [_root_.Option.getD_none,Nat.lt_irrefl,if_false];rw [zCu s f (pos+1) none acc hp (by omega) (fun a ha=>by cases ha)];rfl
          | some a=>simp only [_root_.Option.getD_some,if_pos (h3 a rfl)];rw [zCu s f (pos+1) none (acc++[(a,pos)]) hp (by omega) (fun a ha=>by cases ha),List.append_assoc];rfl
        · have hbl:zZg (s[pos]'hp).toNat=false:=(by unfold zZg;rw [beq_eq_false_iff_ne];intro e;exact hc (UInt8.toNat_inj.1 e));simp only [hbl,Bool.false_eq_true,if_false];rw [hd,zHz,if_neg hc];cases st with
          | none=>simp only [_root_.Option.getD_none];rw [zCu s f (pos+1) (some pos) acc hp (by omega) (fun a ha=>by cases ha;omega)];rfl
          | some a=>simp only [_root_.Option.getD_some];rw [zCu s f (pos+1) (some a) acc hp (by omega) (fun a' ha=>by cases ha;have:=h3 a rfl;omega)];rfl
      · have hhi:=Go.decode_high s pos hp (by omega);have hbl:zZg (Utf8.decode s pos).1=false:=(by unfold zZg;rw [beq_eq_false_iff_ne];omega);simp only [hbl,Bool.false_eq_true,if_false];have hsk:∀ g,wSp (s.data.toList.drop pos) pos g=wSp (s.data.toList.drop (pos+(Utf8.decode s pos).2)) (pos+(Utf8.decode s pos).2) g:=by
          intro g;rw [zU3 (Utf8.decode s pos).2 (s.data.toList.drop pos) pos g (by rw [List.length_drop,bsz];omega) ?_,List.drop_drop];intro j hj hjk;rw [List.getElem_drop];intro e;have hjs:pos+j<s.size:=by omega
          have e2:=yIo hjs;by_cases h0:j=0
          · subst h0;have:(s[pos]'hp)=32:=e;rw [this] at hb;exact hb (by decide)
          · have:=d3 j (by omega) hjk;rw [e2,e] at this;exact absurd this (by decide)
        rw [hsk];cases st with
        | none=>simp only [_root_.Option.getD_none];rw [zCu s f _ (some pos) acc d2 (by omega) (fun a ha=>by cases ha;omega)];rfl
        | some a=>simp only [_root_.Option.getD_some];rw [zCu s f _ (some a) acc d2 (by omega) (fun a' ha=>by cases ha;have:=h3 a rfl;omega)];rfl
    · rw [if_neg hp];have:pos=s.size:=by omega
      subst this;rw [List.drop_of_length_le (by rw [bsz];exact Nat.le_refl _)];cases st with
      | none=>simp [Lib.closeSpans,wSp]
      | some a=>simp [Lib.closeSpans,wSp,h3 a rfl]
theorem zN9 (s:ByteArray):Lib.goFieldsP zZg s=zBk s:=by unfold Lib.goFieldsP Lib.spansOfP zBk;rw [zCu s s.size 0 none [] (Nat.zero_le _) (by omega) (fun a ha=>by cases ha)];rfl
theorem zKq {α:Type}{ok:α→Prop}{mk:α→Int→α}{cn:α→Nat}(h:∀ (x:α) (k:Int),0≤k→k+(cn x:Nat)≤4611686018427387904→ok (mk x k)):∀ (xs:List α) (k:Int),0≤k→k+(cnS cn xs:Nat)≤4611686018427387904→∀ y,y∈mkL mk cn xs k→ok y
  | [],k,_,_,y,hy=>by simp [mkL] at hy
  | x::xs,k,h0,hk,y,hy=>by
    have e:cnS cn (x::xs)=cn x+cnS cn xs:=(by unfold cnS;rw [List.map_cons,List.sum_cons]);unfold mkL at hy;rcases List.mem_cons.1 hy with rfl | hy
    · exact h x k h0 (by omega)
    · exact zKq h xs _ (by omega) (by omega) y hy
theorem ySo (x:Int)(k:Int)(h0:0≤k)(hk:k+(1:Nat)≤4611686018427387904):(TD.int .i64).ok k:=show InK .i64 _ from ⟨by omega,by omega⟩
theorem Point.mkE_ok (x:Point)(k:Int)(h0:0≤k)(hk:k+(Point.cnE x:Nat)≤4611686018427387904):Point.td.ok (Point.mkE x k):=by have hc:Point.cnE x=1+1:=rfl;rw [Point.td_ok];exact ⟨(show InK .i64 (k) from ⟨by omega,by omega⟩),(show InK .i64 ((k+1)) from ⟨by omega,by omega⟩)⟩
theorem Placed.mkE_ok (x:Placed)(k:Int)(h0:0≤k)(hk:k+(Placed.cnE x:Nat)≤4611686018427387904):Placed.td.ok (Placed.mkE x k):=by have hc:Placed.cnE x=1+1+1:=rfl;rw [Placed.td_ok];exact ⟨(by rw [Point.td_ok];exact ⟨(show InK .i64 (k) from ⟨by omega,by omega⟩),(show InK .i64 ((k+1)) from ⟨by omega,by omega⟩)⟩),(show InK .i64 (((k+1)+1)) from ⟨by omega,by omega⟩)⟩
theorem Assembly.mkE_ok (x:Assembly)(k:Int)(h0:0≤k)(hk:k+(Assembly.cnE x:Nat)≤4611686018427387904):Assembly.td.ok (Assembly.mkE x k):=by have hc:Assembly.cnE x=cnS Placed.cnE x.Tiles:=rfl;rw [Assembly.td_ok];exact (zKq (ok:=Placed.td.ok) Placed.mkE_ok _ k (by omega) (by omega))
theorem zF0 (q:Assembly)(hk:Assembly.td.ok q):Contract Tryz.prog zAr 8 [.agg (Assembly.td.d false q),.agg (Assembly.td.d false q)] (.v (.bool true)):=by refine zDi (fun us W=>by kernel_rfl) fun w I us hI hV=>?_;obtain ⟨u0,us,rfl,hT0,hV⟩:=zDf hV;obtain ⟨u1,us,rfl,hT1,hV⟩:=zDf hV;obtain rfl:=zFz hV;obtain ⟨cs,rfl,hr⟩:=TD.agg_dn Assembly.td hk hI rfl hT0;obtain ⟨ds,rfl,hs⟩:=TD.agg_dn Assembly.td hk hI rfl hT1;obtain ⟨v0,rfl,z0⟩:=Assembly.cells hr;obtain ⟨x0,rfl,y0⟩:=Assembly.cells hs;exact zOb v0 x0 q w w.heap.size (Nat.le_refl _) z0 y0
theorem Assembly.mkT_ok (x:Assembly)(hx:Assembly.td.ok x)(k:Int)(h0:0≤k)(hk:k+(Assembly.cnT x:Nat)≤4611686018427387904):Assembly.td.ok (Assembly.mkT x k):=by have hc:Assembly.cnT x=cnS Placed.cnE x.Tiles:=rfl;rw [Assembly.td_ok] at hx;rw [Assembly.td_ok];exact (zKq (ok:=Placed.td.ok) Placed.mkE_ok _ k (by omega) (by omega))
theorem zNy (q:Assembly)(hk:Assembly.td.ok q)(k:Int)(h0:0≤k)(h1:k+(Assembly.cnT q:Nat)≤4611686018427387904):zBj Tryz.prog zAr 11 0 [.undef,.v (.int .i64 k)] (.agg (Assembly.td.d true q)) (.v (.int .i64 (k+(Assembly.cnT q:Nat)))) (.agg (Assembly.td.d false (Assembly.mkT q k))):=by refine zVr Assembly.td (fun us W=>by kernel_rfl) hk fun w cs X ho hn hX=>?_;have hr:=Ty.own_lt _ ho;obtain ⟨v0,rfl,z0⟩:=Assembly.cells hr;exact zK5 v0 q k X w ho hn hX h0 h1
theorem zG3 (q:Assembly)(hk:Assembly.td.ok q)(k:Int)(h0:0≤k)(h1:k+(Assembly.cnT q:Nat)≤4611686018427387904):Contract Tryz.prog zAr 12 [.agg (Assembly.td.d false (Assembly.mkT q k)),.v (.int .i64 k)] (.v (.int .i64 (k+(Assembly.cnT q:Nat)))):=by refine zDi (fun us W=>by kernel_rfl) fun w I us hI hV=>?_;obtain ⟨u0,us,rfl,hT0,hV⟩:=zDf hV;obtain ⟨u1,us,rfl,hT1,hV⟩:=zDf hV;obtain rfl:=zFz hV;obtain rfl:=T_v hT1;obtain ⟨cs,rfl,hr⟩:=TD.agg_dn Assembly.td (Assembly.mkT_ok q hk k h0 h1) hI rfl hT0;have hr0:=hr;obtain ⟨v0,rfl,z0⟩:=Assembly.cells hr;exact zLc v0 q k w w.heap.size (Nat.le_refl _) hr0 h0 h1
end Go.Proofs.YtdlchnlpmofpmaaGreatDoor
