/- Laws that the proof stands on. -/
import Derived.Test.YtdlchnlpmofpmaaGreatDoorZg20
import Derived.Test.YtdlchnlpmofpmaaGreatDoorZg13
import Derived.Test.YtdlchnlpmofpmaaGreatDoorZg12
import Derived.Test.YtdlchnlpmofpmaaGreatDoorZg16
import Derived.Test.YtdlchnlpmofpmaaGreatDoorZg17
import Derived.Lib.CutLaws
import Derived.Shelf.Strconv.ParseIntPublic10
import Derived.Test.YtdlchnlpmofpmaaGreatDoorZg6
import Derived.WalkKit
import Derived.BigCall
import Derived.BigGuard
import Derived.Test.YtdlchnlpmofpmaaGreatDoorZVTab
set_option linter.all false
namespace Go.Proofs.YtdlchnlpmofpmaaGreatDoor
open Go.RowKit Go.V
set_option maxRecDepth 100000
structure Wd (L:List (List D)) (ws:List ByteArray):Prop where
  len:L.length=ws.length
  at':∀ (k:Nat) (h:k<ws.length),L[Int.toNat (k:Int)]?=some [.v (.string ws[k])]
  lt:∀ (k:Nat),k<ws.length→((k:Int)<(L.length:Int))=True
theorem zZl (ws:List ByteArray):Wd (ws.map rS) ws where
  len:=by simp
  at':=fun k h=>by rw [Int.toNat_natCast,List.getElem?_map,List.getElem?_eq_getElem h];rfl
  lt:=fun k h=>by rw [List.length_map];exact eq_true (by omega)
structure Nd (L:List (List D)) (ns:List Int):Prop where
  len:L.length=ns.length
  at':∀ (k:Nat) (h:k<ns.length),L[Int.toNat (k:Int)]?=some [.v (.int .i64 ns[k])]
  lt:∀ (k:Nat),k<ns.length→((k:Int)<(L.length:Int))=True
  imm:zDv L=L
theorem zJl {α:Type}(st:Nat→α→ByteArray→Except Int α):∀ (l1 l2:List ByteArray) (k:Nat) (a:α),zCj st (l1++l2) k a=match zCj st l1 k a with
    | .ok a'=>zCj st l2 (k+l1.length) a'
    | .error e=>.error e
  | [],l2,k,a=>by simp [zCj]
  | x::l1,l2,k,a=>by
    simp only [List.cons_append,zCj];cases h:st k a x with
    | error c=>rfl
    | ok a'=>simp only;rw [zJl st l1 l2 (k+1) a',List.length_cons,show k+1+l1.length=k+(l1.length+1) by omega]
theorem yBf {α:Type}{st:Nat→α→ByteArray→Except Int α}{ls:List ByteArray}{i:Nat}{a0 a a':α}(h:i<ls.length)(h1:zCj st (ls.take i) 0 a0=.ok a)(h2:st i a ls[i]=.ok a'):zCj st (ls.take (i+1)) 0 a0=.ok a':=by rw [List.take_succ,List.getElem?_eq_getElem h,zJl,h1];simp only [_root_.Option.toList,zCj];rw [List.length_take,show 0+min i ls.length=i by omega,h2]
theorem zOn {α:Type}{st:Nat→α→ByteArray→Except Int α}{ls:List ByteArray}{i:Nat}{a0 a:α}{c:Int}(h:i<ls.length)(h1:zCj st (ls.take i) 0 a0=.ok a)(h2:st i a ls[i]=.error c):zCj st ls 0 a0=.error (i+1,c):=by have e:ls=ls.take i++(ls[i]::ls.drop (i+1)):=(by rw [List.getElem_cons_drop,List.take_append_drop]);rw [e,zJl,h1];simp only [zCj];rw [List.length_take,show 0+min i ls.length=i by omega,h2]
/-! A tile put to its place, list by list. -/
def zYd (x:Placed):List Placed→List Placed
  | []=>[x]
  | y::ys=>if zB6 x.At y.At then x::y::ys else y::zYd x ys
theorem zSb (x y:Placed):∀ l:List Placed,zYd x (l++[y])=if l.any (fun z=>zB6 x.At z.At) then zYd x l++[y] else if zB6 x.At y.At then l++[x]++[y] else l++[y]++[x]
  | []=>by
    simp only [List.nil_append,List.any_nil,Bool.false_eq_true,if_false];unfold zYd;split
    · rfl
    · rfl
  | z :: l=>by
    have ih:=zSb x y l;simp only [List.cons_append,List.any_cons];unfold zYd;cases hz:zB6 x.At z.At with
    | true=>simp
    | false =>
      simp only [Bool.false_eq_true,if_false,Bool.false_or];rw [ih];split
      · rfl
      · split<;>rfl
theorem zSc {x:Placed}:∀ {l:List Placed},l.any (fun z=>zB6 x.At z.At)=false→zYd x l=l++[x]
  | [],_=>rfl
  | z::l,h=>by simp only [List.any_cons,Bool.or_eq_false_iff] at h;unfold zYd;rw [if_neg (by rw [h.1];decide),zSc h.2];rfl
theorem zVl (x:Placed)(ys:List Placed):∀ i,i≤ys.length→zJm x ys i=if (ys.take i).any (fun z=>zB6 x.At z.At) then (zYd x (ys.take i),true) else (ys.take i,false)
  | 0,_=>by simp [zJm]
  | i + 1,h=>by
    have hi:i<ys.length:=(by omega);have ih:=zVl x ys i (by omega);have e:ys.take (i+1)=ys.take i++[ys[i]]:=(by rw [List.take_succ,List.getElem?_eq_getElem hi];rfl);unfold zJm;rw [List.getElem?_eq_getElem hi];simp only;rw [ih,e,List.any_append,zSb];cases ha:(ys.take i).any (fun z=>zB6 x.At z.At) with
    | true=>simp
    | false =>
      cases hb:zB6 x.At ys[i].At with
      | true=>simp [hb]
      | false=>simp [hb]
theorem yGo (x:Placed)(ys:List Placed):yMu x ys=zYd x ys:=by
  unfold yMu;rw [zVl x ys ys.length (Nat.le_refl _),List.take_length];cases ha:ys.any (fun z=>zB6 x.At z.At) with
  | true=>rfl
  | false=>simp only [Bool.false_eq_true,if_false];rw [zSc ha]
theorem zM2 (x:Placed):∀ ys,(zYd x ys).Perm (x::ys)
  | []=>List.Perm.refl _
  | y::ys=>by
    unfold zYd;split
    · exact List.Perm.refl _
    · exact ((zM2 x ys).cons y).trans (List.Perm.swap x y ys)
theorem zM1 {x:Placed}:∀ {ys:List Placed},zD8 ys→(∀ y,y∈ys→y.At≠x.At)→zD8 (zYd x ys)
  | [],_,_=>List.pairwise_singleton ..
  | y :: ys,h,hn=>by
    have h':=List.pairwise_cons.1 h;unfold zYd;split
    · rename_i hxy;refine List.pairwise_cons.2 ⟨fun z hz=>?_,h⟩;rcases List.mem_cons.1 hz with rfl | hz
      · exact hxy
      · exact zP3 hxy (h'.1 z hz)
    · rename_i hxy;have hyx:zB6 y.At x.At=true:=by
        cases hc:zB6 y.At x.At with
        | true=>rfl
        | false=>exact absurd (zT6 (by simpa using hxy) hc) (fun e=>hn y (by simp) e.symm)
      refine List.pairwise_cons.2 ⟨fun z hz=>?_,zM1 h'.2 (fun z hz=>hn z (by simp [hz]))⟩;rcases List.mem_cons.1 ((zM2 x ys).mem_iff.1 hz) with rfl | hz
      · exact hyx
      · exact h'.1 z hz
def zN8 (xs:List Placed):List Placed:=xs.foldl (fun q x=>yMu x q) []
theorem zSd (xs:List Placed)(x:Placed):zN8 (xs++[x])=yMu x (zN8 xs):=by unfold zN8;rw [List.foldl_append];rfl
def yPq (xs:List Placed):Prop:=xs.Pairwise (fun x y=>x.At≠y.At)
theorem zP8:∀ (n:Nat) (xs:List Placed),xs.length=n→yPq xs→zD8 (zN8 xs)∧(zN8 xs).Perm xs
  | 0,xs,hn,h=>by have:xs=[]:=List.eq_nil_of_length_eq_zero hn;subst this;exact ⟨List.Pairwise.nil,List.Perm.refl _⟩
  | n+1,xs,hn,h=>by have hne:xs≠[]:=(by intro e;rw [e] at hn;simp at hn);have hd:=List.dropLast_concat_getLast hne;generalize xs.dropLast=ys at hd;generalize xs.getLast hne=x at hd;subst hd;have h':=List.pairwise_append.1 h;have ih:=zP8 n ys (by simpa using hn) h'.1;rw [zSd,yGo];refine ⟨zM1 ih.1 (fun y hy=>h'.2.2 y (ih.2.mem_iff.1 hy) x (by simp)),?_⟩;exact ((zM2 x _).trans (ih.2.cons x)).trans (List.perm_append_singleton x ys).symm
theorem yC2 {xs:List Placed}(h:yPq xs):zN8 xs=zL8 xs:=by obtain ⟨h1,h2⟩:=zP8 _ xs rfl h;exact zHc h1 (zF3 h) (fun z=>by rw [h2.mem_iff,(zD6 xs).mem_iff])
theorem yIb {xs:List Placed}(h:yPq xs):(zN8 xs).length=xs.length:=(zP8 _ xs rfl h).2.length_eq
def zSf (xs:List Placed)(p:Point):Bool:=xs.any (fun t=>decide (t.At=p))
theorem yC8 {xs:List Placed}(h:yPq xs)(p:Point):decide (yOh (zN8 xs) p≥0)=zSf xs p:=by
  obtain ⟨h1,h2⟩:=zP8 _ xs rfl h;unfold zSf;cases ha:xs.any (fun t=>decide (t.At=p)) with
  | true=>rw [List.any_eq_true] at ha;obtain ⟨t,ht,he⟩:=ha;have he:=of_decide_eq_true he;have:=(yQp h1 (h2.mem_iff.2 ht)).1;rw [he] at this;unfold yOh;rw [this,if_pos rfl];exact decide_eq_true (by omega)
  | false=>rw [List.any_eq_false] at ha;have:=(yU4 (ps:=zN8 xs) (p:=p) (fun x hx=>by simpa using ha x (h2.mem_iff.1 hx))).1;unfold yOh;rw [this];rfl
theorem yDl {xs:List Placed}{x:Placed}(h:yPq xs)(hn:zSf xs x.At=false):yPq (xs++[x]):=by unfold zSf at hn;rw [List.any_eq_false] at hn;refine List.pairwise_append.2 ⟨h,List.pairwise_singleton ..,fun a ha b hb=>?_⟩;rcases List.mem_singleton.1 hb with rfl;simpa using hn a ha
/-! Points that are read. -/
def zXo:List ByteArray→Option Point
  | [x,y]=>match zBu x with
    | none=>none
    | some n=>match zBu y with
      | none=>none
      | some m=>if yBp ⟨n,m⟩ then some ⟨n,m⟩ else none
  | _=>none
def zN1 (b:ByteArray):Option Point:=zXo (splitB 44 b)
/-! Lines that are read. -/
def zA8 (ts:List Tile) (xs:List Placed):List ByteArray→Except Int (List Placed)
  | [w0,w1]=>match zN1 w1 with
    | none=>.error 6
    | some p=>if zQu ts w0<0 then .error 3 else if zSf xs p then .error 7 else if 500≤xs.length then .error 4 else .ok (xs++[⟨p,zQu ts w0⟩])
  | _=>.error 6
def zZe (ts:List Tile)(_:Nat)(xs:List Placed)(l:ByteArray):Except Int (List Placed):=zA8 ts xs (zBk l)
def asm0:Assembly:=⟨[]⟩
def yR2:Except (Nat×Int) (List Placed)→Assembly×Int×Int
  | .error (k,c)=>(asm0,(k:Int),c)
  | .ok xs=>(⟨zL8 xs⟩,0,0)
def zAp (s:TileSet)(b:ByteArray):Assembly×Int×Int :=
  if zD2 s=false then (asm0,0,1)
  else if 20000<b.size then (asm0,0,2) else yR2 (zCj (zZe s.Tiles) (zA5 b) 0 [])
theorem yJ2 {s:TileSet}{b:ByteArray}(h:zD2 s=false):zAp s b=(asm0,0,1):=by unfold zAp;rw [if_pos h]
theorem yJ3 {s:TileSet}{b:ByteArray}(h:zD2 s=true)(hb:20000<b.size):zAp s b=(asm0,0,2):=by unfold zAp;rw [if_neg (by rw [h];decide),if_pos hb]
theorem zMe {s:TileSet}{b:ByteArray}(h:zD2 s=true)(hb:¬ 20000<b.size){r:Except (Nat×Int) (List Placed)}(hr:zCj (zZe s.Tiles) (zA5 b) 0 []=r):zAp s b=yR2 r:=by unfold zAp;rw [if_neg (by rw [h];decide),if_neg hb,hr]
structure RaB (n:Nat) (xs:List Placed):Prop where
  dis:yPq xs
  len:xs.length≤500
  pt:∀ x,x∈xs→yBp x.At=true∧0≤x.Tile∧x.Tile<n
theorem yGk (n:Nat):RaB n []:=⟨List.Pairwise.nil,by simp,fun _ h=>by cases h⟩
theorem yGe {b:ByteArray}{p:Point}(h:zN1 b=some p):yBp p=true:=by
  unfold zN1 zXo at h
  repeat' split at h
  all_goals first | (cases h;assumption) | cases h
theorem zVi {ts:List Tile} {xs ys:List Placed} {w:List ByteArray} (h:RaB ts.length xs) (e:zA8 ts xs w=.ok ys):RaB ts.length ys:=by
  unfold zA8 at e;split at e
  · split at e
    · cases e
    · rename_i p hp;split at e
      · cases e
      · rename_i ht;split at e
        · cases e
        · rename_i ha;split at e
          · cases e
          · rename_i hl;cases e;refine ⟨yDl h.dis (by simpa using ha),by simp;omega,fun x hx=>?_⟩;rcases List.mem_append.1 hx with hx | hx
            · exact h.pt x hx
            · rcases List.mem_singleton.1 hx with rfl;refine ⟨yGe hp,by simp only;omega,?_⟩;simp only;unfold zQu;exact zZr _ ts
  · cases e
theorem zGo {ts:List Tile}{xs:List Placed}{w:List ByteArray}{c:Int}(e:zA8 ts xs w=.error c):c=6∨c=3∨c=7∨c=4:=by
  unfold zA8 at e
  repeat' split at e
  all_goals first | (cases e;simp) | cases e
theorem zPu {ts:List Tile}(ls:List ByteArray):∀ (i:Nat) (xs ys:List Placed),RaB ts.length xs→zCj (zZe ts) ls i xs=.ok ys→RaB ts.length ys:=by
  induction ls with
  | nil=>intro i xs ys h e;cases e;exact h
  | cons l ls ih =>
    intro i xs ys h e;simp only [zCj,zZe] at e;cases hr:zA8 ts xs (zBk l) with
    | error c=>rw [hr] at e;cases e
    | ok zs=>rw [hr] at e;exact ih (i+1) zs ys (zVi h hr) e
theorem yMt {ts:List Tile}(ls:List ByteArray):∀ (i:Nat) (xs:List Placed) (k:Nat) (c:Int),zCj (zZe ts) ls i xs=.error (k,c)→c=6∨c=3∨c=7∨c=4:=by
  induction ls with
  | nil=>intro i s k c h;cases h
  | cons l ls ih =>
    intro i s k c h;simp only [zCj,zZe] at h;cases hr:zA8 ts s (zBk l) with
    | ok s'=>rw [hr] at h;exact ih _ _ _ _ h
    | error c'=>rw [hr] at h;simp only [Except.error.injEq,Prod.mk.injEq] at h;rw [← h.2];exact zGo hr
theorem zUs (x:UInt8):∀ (m:List UInt8) (k p f:Nat),(∀ j (h:j<m.length),j<k→m[j]≠x)→(hk:k<m.length)→m[k]=x→cSp x m p f=(f,p+k)::cSp x (m.drop (k+1)) (p+k+1) (p+k+1)
  | [],k,p,f,_,hk,_=>absurd hk (by simp)
  | c::r,0,p,f,_,hk,h=>by have hc:c=x:=h;rw [zFo,if_pos hc];rfl
  | c::r,k+1,p,f,hn,hk,h=>by have hc:¬ c=x:=hn 0 (by simp) (by omega);rw [zFo,if_neg hc,zUs x r k (p+1) f (fun j hj hjk=>hn (j+1) (by simpa using hj) (by omega)) (by simpa using hk) (by simpa using h)];rw [List.drop_succ_cons,show p+1+k=p+(k+1) by omega]
theorem zQm (x:UInt8):∀ (m:List UInt8) (p f:Nat),(∀ j (h:j<m.length),m[j]≠x)→cSp x m p f=[(f,p+m.length)]
  | [],p,f,_=>by simp [cSp]
  | c::r,p,f,hn=>by have hc:¬ c=x:=hn 0 (by simp);rw [zFo,if_neg hc,zQm x r (p+1) f (fun j hj=>hn (j+1) (by simpa using hj))];rw [show p+1+r.length=p+(c::r).length by simp;omega]
def noB:ByteArray:=⟨⟨[]⟩⟩
def zYx (b:ByteArray):ByteArray×ByteArray:=if Lib.indexByte b.data.toList 44 = -1 then (b,noB) else (b.extract 0 (Lib.indexByte b.data.toList 44).toNat,b.extract ((Lib.indexByte b.data.toList 44).toNat+1) b.size)
theorem yGf {b:ByteArray}{n:Int}(h:zBu b=some n):∀ j (hj:j<b.data.toList.length),b.data.toList[j]≠44:=by
  unfold zBu at h;split at h
  case isFalse=>cases h
  rename_i hc;have hall:=hc.2.2.1;rw [List.all_eq_true] at hall;intro j hj e;generalize b.data.toList=l at hall hj e;cases l with
  | nil=>simp at hj
  | cons c r =>
    rw [zCk] at hall;have bad:zMd 44=false:=by decide
    split at hall
    · rename_i h45;cases j with
      | zero=>simp only [List.getElem_cons_zero] at e;rw [e] at h45;exact absurd h45 (by decide)
      | succ j=>simp only [List.getElem_cons_succ] at e;have:=hall _ (List.getElem_mem (by simpa using hj));rw [e,bad] at this;cases this
    · have:=hall _ (List.getElem_mem hj);rw [e,bad] at this;cases this
theorem yBe:zBu noB=none:=by
  cases h:zBu noB with
  | none=>rfl
  | some n=>unfold zBu at h;rw [if_neg (fun h=>absurd h.1 (by decide))] at h;cases h
theorem yBd (b:ByteArray):zN1 b=match zBu (zYx b).1 with
    | none=>none
    | some n=>match zBu (zYx b).2 with
      | none=>none
      | some m=>if yBp ⟨n,m⟩ then some ⟨n,m⟩ else none:=by
  unfold zN1 zXo zYx splitB;rcases zM0 b.data.toList 44 with ⟨h1,h2⟩ | ⟨k,h1,hk,h2,h3⟩
  · rw [h1,if_pos rfl,zQm 44 _ _ _ h2];simp only [List.map_cons,List.map_nil];rw [yBe];cases zBu b<;>rfl
  · rw [h1,if_neg (by omega),Int.toNat_natCast,zUs 44 _ k _ _ h3 hk h2];simp only [Nat.zero_add,List.map_cons];have hk':k<b.size:=hk;rcases zM0 (b.data.toList.drop (k+1)) 44 with ⟨g1,g2⟩ | ⟨k2,g1,gk,g2,g3⟩
    · rw [zQm 44 _ _ _ g2];simp only [List.map_cons,List.map_nil];have e:k+1+(b.data.toList.drop (k+1)).length=b.size:=by rw [List.length_drop,bsz];omega
      rw [e];rfl
    · rw [zUs 44 _ k2 _ _ g3 gk g2];have hn:zBu (b.extract (k+1) b.size)=none:=by
        cases h:zBu (b.extract (k+1) b.size) with
        | none=>rfl
        | some n=>have hno:=yGf h;have hl:(b.extract (k+1) b.size).data.toList=b.data.toList.drop (k+1):=(by simp only [ByteArray.data_extract,Array.toList_extract];rw [List.extract_eq_drop_take,List.take_of_length_le];rw [List.length_drop,bsz];exact Nat.le_refl _);have hj:k2<(b.extract (k+1) b.size).data.toList.length:=(by rw [hl];exact gk);have:=hno k2 hj;simp only [hl] at this;exact absurd g2 this
      rw [hn];simp only [List.map_cons];have hsp:∀ (m:List UInt8) (p f:Nat),cSp 44 m p f≠[]:=by
        intro m;induction m with
        | nil=>intro p f;simp [cSp]
        | cons c r ih=>intro p f;rw [zFo];split;exact (by simp);exact ih _ _
      cases hz:cSp 44 ((b.data.toList.drop (k+1)).drop (k2+1)) (k+1+k2+1) (k+1+k2+1) with
      | nil=>exact absurd hz (hsp _ _ _)
      | cons z zs=>simp only [List.map_cons];cases zBu (b.extract 0 k)<;>rfl
theorem zY3 (b:ByteArray)(hb:b.size≤1048576)(w:World)(I:Nat→Prop)(hG:GI zAr w I):Calls Tryz.prog 102 #[.string b,.int .i64 10,.int .i64 64] w fun e w'=>Below w.heap.size w w'∧((∃ v,Lib.parseIntB 64 b.data.toList=.ok v∧e=.returned (.tuple #[.int .i64 v,.nilIface]))∨((∀ v,Lib.parseIntB 64 b.data.toList≠.ok v)∧∃ (x:Int) (t:TypeId) (N:Nat),e=.returned (.tuple #[.int .i64 x,.iface t (.pointer (some ⟨N,0,none⟩))]))):=by
  obtain ⟨J,hJ,_,_,⟨⟨s1,s2,hs⟩,⟨r1,r2,hr⟩,_,_,_,_⟩⟩:=hG;have es:yVl=Tryz.lays174_ren.g 15:=(by kernel_rfl);have er:yVm=Tryz.lays174_ren.g 16:=(by kernel_rfl);rw [es] at hs;rw [er] at hr;rcases h:Lib.parseIntB 64 b.data.toList with v | _ | _
  · refine (Any.strconv_ParseInt_10_at64_ok Tryz.lays174 b (by omega) v h w).mono ?_;rintro e w' ⟨rfl,hw⟩;refine ⟨?_,.inl ⟨v,rfl,rfl⟩⟩;rcases hw with rfl | ⟨t,rfl⟩
    · exact Below.refl _ _
    · exact Lib.bytesWorld_below _ _ _
  · refine (Any.strconv_ParseInt_10_at64_syntax Tryz.lays174 b (by omega) h _ w hs (.inr ⟨_,_,rfl⟩)).mono ?_;rintro e w' ⟨N,rfl,_,_,hB⟩;exact ⟨hB,.inr ⟨(fun v h=>by cases h),_,_,_,rfl⟩⟩
  · refine (Any.strconv_ParseInt_10_at64_range Tryz.lays174 b (by omega) h _ w hr (.inr ⟨_,_,rfl⟩)).mono ?_;rintro e w' ⟨N,rfl,_,_,hB⟩;exact ⟨hB,.inr ⟨(fun v h=>by cases h),_,_,_,rfl⟩⟩
theorem yG8 {b:ByteArray}{v:Int}(h:Lib.parseIntB 64 b.data.toList=.ok v):InK .i64 v:=by have:=Lib.parseIntB_bounds h;unfold InK;simp only [Nat.reduceSub,Nat.reducePow] at this;omega
theorem zFa (b:ByteArray)(w:World)(Q:World→Prop)
    (hP:Calls Tryz.prog 102 #[.string b,.int .i64 10,.int .i64 64] w fun e w'=>Q w'∧∃ (x:Int) (t:TypeId) (N:Nat),e=.returned (.tuple #[.int .i64 x,.iface t (.pointer (some ⟨N,0,none⟩))])) :
    Calls Tryz.prog 82 #[.string b] w fun e w'=>e=.returned (.tuple #[.int .i64 0,.bool false])∧Q w':=by
  go_enter Tryz.func82,Tryz.ntmps82;go_wp2_with (go_at_call 102;refine hP.mono ?_;rintro e w2 ⟨hB,x,t,N,rfl⟩)
  go_ret2
  exact ⟨rfl,hB⟩
theorem zNj (b:ByteArray)(w:World)(Q:World→Prop)(v:Int)
    (hP:Calls Tryz.prog 102 #[.string b,.int .i64 10,.int .i64 64] w fun e w'=>Q w'∧e=.returned (.tuple #[.int .i64 v,.nilIface]))
    (hW:∀ W,Q W→Calls Tryz.prog 69 #[.int .i64 v,.int .i64 (-1000000000),.int .i64 1000000000] W fun e w'=>Q w'∧e=.returned (.bool false)) :
    Calls Tryz.prog 82 #[.string b] w fun e w'=>e=.returned (.tuple #[.int .i64 0,.bool false])∧Q w':=by
  go_enter Tryz.func82,Tryz.ntmps82;go_wp2_with (first
    | (go_at_call 102;refine hP.mono ?_;rintro e w2 ⟨hB,rfl⟩)
    | (go_at_call 69;refine (hW _ (by assumption)).mono ?_;rintro e w3 ⟨hB3,rfl⟩))
  go_ret2
  exact ⟨rfl,by assumption⟩
theorem zNi (b:ByteArray)(w:World)(Q:World→Prop)(v:Int)(d:ByteArray)(hne:¬ d=b)
    (hP:Calls Tryz.prog 102 #[.string b,.int .i64 10,.int .i64 64] w fun e w'=>Q w'∧e=.returned (.tuple #[.int .i64 v,.nilIface]))
    (hW:∀ W,Q W→Calls Tryz.prog 69 #[.int .i64 v,.int .i64 (-1000000000),.int .i64 1000000000] W fun e w'=>Q w'∧e=.returned (.bool true))
    (hD:∀ W,Q W→Calls Tryz.prog 103 #[.int .i64 v] W fun e w'=>Q w'∧e=.returned (.string d)) :
    Calls Tryz.prog 82 #[.string b] w fun e w'=>e=.returned (.tuple #[.int .i64 0,.bool false])∧Q w':=by
  go_enter Tryz.func82,Tryz.ntmps82;go_wp2_with (first
    | (go_at_call 102;refine hP.mono ?_;rintro e w2 ⟨hB,rfl⟩)
    | (go_at_call 69;refine (hW _ (by assumption)).mono ?_;rintro e w3 ⟨hB3,rfl⟩)
    | (go_at_call 103;refine (hD _ (by assumption)).mono ?_;rintro e w4 ⟨hB4,rfl⟩))
  · go_ret2
    exact ⟨rfl,by assumption⟩
  · exfalso;rename_i hq;rw [Bool.not_eq_false',beq_iff_eq,ByteArray.toList_eq,ByteArray.toList_eq] at hq;exact hne (ByteArray.ext (Array.toList_inj.1 hq))
theorem zNh (b:ByteArray)(w:World)(Q:World→Prop)(v:Int)
    (hP:Calls Tryz.prog 102 #[.string b,.int .i64 10,.int .i64 64] w fun e w'=>Q w'∧e=.returned (.tuple #[.int .i64 v,.nilIface]))
    (hW:∀ W,Q W→Calls Tryz.prog 69 #[.int .i64 v,.int .i64 (-1000000000),.int .i64 1000000000] W fun e w'=>Q w'∧e=.returned (.bool true))
    (hD:∀ W,Q W→Calls Tryz.prog 103 #[.int .i64 v] W fun e w'=>Q w'∧e=.returned (.string b)) :
    Calls Tryz.prog 82 #[.string b] w fun e w'=>e=.returned (.tuple #[.int .i64 v,.bool true])∧Q w':=by
  go_enter Tryz.func82,Tryz.ntmps82;go_wp2_with (first
    | (go_at_call 102;refine hP.mono ?_;rintro e w2 ⟨hB,rfl⟩)
    | (go_at_call 69;refine (hW _ (by assumption)).mono ?_;rintro e w3 ⟨hB3,rfl⟩)
    | (go_at_call 103;refine (hD _ (by assumption)).mono ?_;rintro e w4 ⟨hB4,rfl⟩))
  go_ret2
  exact ⟨rfl,by assumption⟩
theorem zEp (b:ByteArray) (hb:b.size≤1048576):Contract Tryz.prog zAr 82 [.v (.string b)] (rdR (zBu b)):=by
  refine ⟨fun us W=>by kernel_rfl,fun w I us hG hI hV=>?_⟩;simp only [Vals,T] at hV;obtain ⟨_,_,_,_,rfl,_,⟨rfl,_⟩,rfl,_⟩:=hV;have key:Calls Tryz.prog 82 #[.string b] w fun e w'=>e=.returned (.tuple #[.int .i64 ((zBu b).getD 0),.bool (zBu b).isSome])∧Below w.heap.size w w':=by
    have hP:=zY3 b hb w I hG;have hW:∀ (v:Int) W,Below w.heap.size w W→Calls Tryz.prog 69 #[.int .i64 v,.int .i64 (-1000000000),.int .i64 1000000000] W fun e w'=>Below w.heap.size w w'∧e=.returned (.bool (inR (-1000000000) 1000000000 v)):=fun v W hB=>by refine ((zGm v (-1000000000) 1000000000).2 W I [.int .i64 v,.int .i64 (-1000000000),.int .i64 1000000000] (GI.keep zC6 hG fun x hx=>hB.block x (hI x hx)) (fun x hx=>Nat.lt_of_lt_of_le (hI x hx) hB.size) (by simp only [Vals,T];exact ⟨_,_,[],[],rfl,rfl,⟨rfl,rfl⟩,_,_,[],[],rfl,rfl,⟨rfl,rfl⟩,_,_,[],[],rfl,rfl,⟨rfl,rfl⟩,rfl,rfl⟩)).mono ?_;rintro e w' ⟨u,F,I',rfl,hB2,hT,_⟩;simp only [T] at hT;exact ⟨hB.trans (hB2.mono hB.size),by rw [hT.1]⟩
    have hD:∀ (v:Int),InK .i64 v→∀ W,Below w.heap.size w W→Calls Tryz.prog 103 #[.int .i64 v] W fun e w'=>Below w.heap.size w w'∧e=.returned (.string (zQx v)):=fun v hv W hB=>by refine ((zNz v hv).2 W I [.int .i64 v] (GI.keep zC6 hG fun x hx=>hB.block x (hI x hx)) (fun x hx=>Nat.lt_of_lt_of_le (hI x hx) hB.size) (by simp only [Vals,T];exact ⟨_,_,[],[],rfl,rfl,⟨rfl,rfl⟩,rfl,rfl⟩)).mono ?_;rintro e w' ⟨u,F,I',rfl,hB2,hT,_⟩;simp only [T] at hT;exact ⟨hB.trans (hB2.mono hB.size),by rw [hT.1]⟩
    rcases hp:Lib.parseIntB 64 b.data.toList with v | _ | _
    · have hin:=yG8 hp;have hP':Calls Tryz.prog 102 #[.string b,.int .i64 10,.int .i64 64] w fun e w'=>Below w.heap.size w w'∧e=.returned (.tuple #[.int .i64 v,.nilIface]):=by
        refine hP.mono ?_;rintro e w' ⟨hB,⟨v',h1,h2⟩ | ⟨h1,_⟩⟩
        · rw [hp] at h1;cases h1;exact ⟨hB,h2⟩
        · exact absurd hp (h1 v)
      have hw1:=hW v;have hd1:=hD v hin;cases hi:inR (-1000000000) 1000000000 v with
      | false =>
        rw [hi] at hw1;have hN:zBu b=none:=by
          cases h:zBu b with
          | none=>rfl
          | some n=>obtain ⟨h1,h2⟩:=readD_iff.1 h;have:=zIf h1;rw [h2,hp] at this;cases this;rw [inR_iff.2 h1] at hi;cases hi
        rw [hN];exact zNj b w _ v hP' hw1
      | true =>
        rw [hi] at hw1;by_cases hd:zQx v=b
        · have hN:zBu b=some v:=readD_iff.2 ⟨inR_iff.1 hi,hd⟩;rw [hN];rw [hd] at hd1;exact zNh b w _ v hP' hw1 hd1
        · have hN:zBu b=none:=by
            cases h:zBu b with
            | none=>rfl
            | some n=>obtain ⟨h1,h2⟩:=readD_iff.1 h;have:=zIf h1;rw [h2,hp] at this;cases this;exact absurd h2 hd
          rw [hN];exact zNi b w _ v _ hd hP' hw1 hd1
    · have hN:zBu b=none:=by
        cases h:zBu b with
        | none=>rfl
        | some n=>obtain ⟨h1,h2⟩:=readD_iff.1 h;have:=zIf h1;rw [h2,hp] at this;cases this
      rw [hN];refine zFa b w _ (hP.mono ?_);rintro e w' ⟨hB,⟨v',h1,h2⟩ | ⟨_,h2⟩⟩
      · rw [hp] at h1;cases h1
      · exact ⟨hB,h2⟩
    · have hN:zBu b=none:=by
        cases h:zBu b with
        | none=>rfl
        | some n=>obtain ⟨h1,h2⟩:=readD_iff.1 h;have:=zIf h1;rw [h2,hp] at this;cases this
      rw [hN];refine zFa b w _ (hP.mono ?_);rintro e w' ⟨hB,⟨v',h1,h2⟩ | ⟨_,h2⟩⟩
      · rw [hp] at h1;cases h1
      · exact ⟨hB,h2⟩
  refine key.mono ?_;rintro e w' ⟨rfl,hB⟩;refine ⟨_,[],I,rfl,hB,?_,List.nodup_nil,(fun b h=>by cases h),fun b h=>h,fun b h=>⟨.inl h,Nat.lt_of_lt_of_le (hI b h) hB.size⟩⟩;unfold rdR;generalize (zBu b).getD 0=x;generalize (zBu b).isSome=y;simp only [T,Vals];exact ⟨_,rfl,_,_,[],[],rfl,rfl,⟨rfl,rfl⟩,_,_,[],[],rfl,rfl,⟨rfl,rfl⟩,rfl,rfl⟩
end Go.Proofs.YtdlchnlpmofpmaaGreatDoor
