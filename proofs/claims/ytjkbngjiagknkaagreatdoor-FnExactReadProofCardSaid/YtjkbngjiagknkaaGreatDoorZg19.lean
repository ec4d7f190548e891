/- Laws that the proof stands on. -/
import Derived.Test.YtjkbngjiagknkaaGreatDoorZg18
import Derived.Test.YtjkbngjiagknkaaGreatDoorZg13
import Derived.Test.YtjkbngjiagknkaaGreatDoorZg12
import Derived.Shelf.Strconv.ParseIntPublic10
import Derived.Test.YtjkbngjiagknkaaGreatDoorZg6
import Derived.WalkKit
import Derived.BigCall
import Derived.BigGuard
import Derived.Test.YtjkbngjiagknkaaGreatDoorZVTab
set_option linter.all false
namespace Go.Proofs.YtjkbngjiagknkaaGreatDoor
open Go.RowKit Go.V
set_option maxRecDepth 100000
structure Wd (L:List (List D)) (ws:List ByteArray):Prop where
  len:L.length=ws.length
  at':∀ (k:Nat) (h:k < ws.length),L[Int.toNat (k:Int)]?=some [.v (.string ws[k])]
  lt:∀ (k:Nat),k < ws.length→((k:Int) < (L.length:Int))=True
theorem wd_map (ws:List ByteArray):Wd (ws.map rS) ws where
  len:=by simp
  at':=fun k h=>by rw [Int.toNat_natCast,List.getElem?_map,List.getElem?_eq_getElem h];rfl
  lt:=fun k h=>by rw [List.length_map];exact eq_true (by omega)
structure Nd (L:List (List D)) (ns:List Int):Prop where
  len:L.length=ns.length
  at':∀ (k:Nat) (h:k < ns.length),L[Int.toNat (k:Int)]?=some [.v (.int .i64 ns[k])]
  lt:∀ (k:Nat),k < ns.length→((k:Int) < (L.length:Int))=True
  imm:immLL L=L
theorem rdFold_app {α:Type} (st:Nat→α→ByteArray→Except Int α):∀ (l1 l2:List ByteArray) (k:Nat) (a:α),rdFold st (l1++l2) k a=match rdFold st l1 k a with
    | .ok a'=>rdFold st l2 (k+l1.length) a'
    | .error e=>.error e
  | [],l2,k,a=>by simp [rdFold]
  | x::l1,l2,k,a=>by
    simp only [List.cons_append,rdFold];cases h:st k a x with
    | error c=>rfl
    | ok a'=>simp only;rw [rdFold_app st l1 l2 (k+1) a',List.length_cons,show k+1+l1.length=k+(l1.length+1) by omega]
theorem rdFold_ok {α:Type} {st:Nat→α→ByteArray→Except Int α} {ls:List ByteArray} {i:Nat} {a0 a a':α} (h:i < ls.length) (h1:rdFold st (ls.take i) 0 a0=.ok a) (h2:st i a ls[i]=.ok a'):rdFold st (ls.take (i+1)) 0 a0=.ok a':=by rw [List.take_succ,List.getElem?_eq_getElem h,rdFold_app,h1];simp only [_root_.Option.toList,rdFold];rw [List.length_take,show 0+min i ls.length=i by omega,h2]
theorem rdFold_err {α:Type} {st:Nat→α→ByteArray→Except Int α} {ls:List ByteArray} {i:Nat} {a0 a:α} {c:Int} (h:i < ls.length) (h1:rdFold st (ls.take i) 0 a0=.ok a) (h2:st i a ls[i]=.error c):rdFold st ls 0 a0=.error (i+1,c):=by have e:ls=ls.take i++(ls[i]::ls.drop (i+1)):=(by rw [List.getElem_cons_drop,List.take_append_drop]);rw [e,rdFold_app,h1];simp only [rdFold];rw [List.length_take,show 0+min i ls.length=i by omega,h2]
def pf0:Proof:=⟨0,[],[],[],[]⟩
def kindN (b:ByteArray):Int:=if nameP 1=b then 1 else if nameP 2=b then 2 else if nameP 3=b then 3 else if nameP 4=b then 4 else if nameP 5=b then 5 else if nameP 6=b then 6 else 0
def placeW (b:ByteArray):Int:=if wPut=b then 0 else if wOther=b then 1 else if wPart=b then 2 else if wFlow=b then 3 else -1
theorem placeW_rng (b:ByteArray):placeW b = -1∨placeW b=0∨placeW b=1∨placeW b=2∨placeW b=3:=by unfold placeW;(repeat' split) <;> simp
def pfHead (p:Proof):List ByteArray→_root_.Option Proof
  | [w0,w1]=>if w0=wProof∧kindN w1≠0 then some { p with Kind:=kindN w1 } else none
  | _=>none
def pfAdd (p:Proof) (k:Int) (n:List Int):_root_.Option Proof :=
  if k=3 then some { p with Flows:=p.Flows++[n] }
  else if k=2 then (if n≠[]∧p.Part=[] then some { p with Part:=n } else none)
  else match n with
    | [a,b,c]=>if k=0 then some { p with Sequence:=p.Sequence++[⟨⟨a,b⟩,c⟩] } else if k=1 then some { p with Other:=p.Other++[⟨⟨a,b⟩,c⟩] } else none
    | _=>none
def pfLine (p:Proof) (st:Int):List ByteArray→_root_.Option (Proof × Int)
  | []=>none
  | w0::ws=>match rdNums ws with
    | none=>none
    | some n=>if placeW w0 < st then none else match pfAdd p (placeW w0) n with
      | none=>none
      | some p'=>some (p',placeW w0)
def pfSt (i:Nat) (x:Proof × Int) (l:ByteArray):Except Int (Proof × Int):=match (if i=0 then (match pfHead x.1 (wordsB l) with | none=>none | some p'=>some (p',x.2)) else pfLine x.1 x.2 (wordsB l)) with
  | some x'=>.ok x'
  | none=>.error 6
def ReadProofR (b:ByteArray):Proof × Int × Int:=if 20000 < b.size then (pf0,0,2) else match rdFold pfSt (linesB b) 0 (pf0,0) with
  | .error (k,c)=>(pf0,(k:Int),c)
  | .ok x=>if x.1.Kind=0 then (pf0,1,6) else (x.1,0,0)
/-! Sizes. -/
def smN (x:Int):Prop:=-1000000000≤x∧x≤1000000000
def smO (o:Option):Prop:=smN o.At.X∧smN o.At.Y∧smN o.Tile
theorem rdNums_sm {ws:List ByteArray} {ns:List Int} (h:rdNums ws=some ns):∀ x,x∈ns→smN x:=rdNums_in h
structure PfB (M k:Nat) (p:Proof):Prop where
  len:p.Sequence.length+p.Other.length+p.Flows.length≤k
  sq:∀ o,o∈p.Sequence→smO o
  ot:∀ o,o∈p.Other→smO o
  pt:p.Part.length≤M∧∀ x,x∈p.Part→smN x
  fl:∀ f,f∈p.Flows→f.length≤M∧∀ x,x∈f→smN x
  kd:0≤p.Kind∧p.Kind≤6
theorem PfB.mono {M k k':Nat} {p:Proof} (h:PfB M k p) (hk:k≤k'):PfB M k' p:=⟨by have:=h.len;omega,h.sq,h.ot,h.pt,h.fl,h.kd⟩
theorem pf0_B (M:Nat):PfB M 0 pf0:=⟨Nat.le_refl _,(fun _ h=>by cases h),(fun _ h=>by cases h),⟨Nat.zero_le _,fun _ h=>by cases h⟩,(fun _ h=>by cases h),by decide,by decide⟩
theorem mem_snoc {α:Type} {l:List α} {x y:α} (h:x∈l++[y]):x∈l∨x=y:=by simpa using h
theorem pfAdd_B {M k:Nat} {p p':Proof} {j:Int} {n:List Int} (h:PfB M k p) (hn:n.length≤M) (hs:∀ x,x∈n→smN x) (e:pfAdd p j n=some p'):PfB M (k+1) p':=by
  have hl:=h.len;unfold pfAdd at e;split at e
  · cases e;exact ⟨by simp only [List.length_append,List.length_cons,List.length_nil];omega,h.sq,h.ot,h.pt,fun f hf=>by rcases mem_snoc hf with hf | rfl;exact h.fl f hf;exact ⟨hn,hs⟩,h.kd⟩
  · split at e
    · split at e
      · cases e;exact ⟨by simp only;omega,h.sq,h.ot,⟨hn,hs⟩,h.fl,h.kd⟩
      · cases e
    · split at e
      · rename_i a b c;have ho:smO ⟨⟨a,b⟩,c⟩:=⟨hs a (by simp),hs b (by simp),hs c (by simp)⟩
        split at e
        · cases e;exact ⟨by simp only [List.length_append,List.length_cons,List.length_nil];omega,fun o hx=>by rcases mem_snoc hx with hx | rfl;exact h.sq o hx;exact ho,h.ot,h.pt,h.fl,h.kd⟩
        · split at e
          · cases e;exact ⟨by simp only [List.length_append,List.length_cons,List.length_nil];omega,h.sq,fun o hx=>by rcases mem_snoc hx with hx | rfl;exact h.ot o hx;exact ho,h.pt,h.fl,h.kd⟩
          · cases e
      · cases e
theorem kindN_rng (b:ByteArray):0≤kindN b∧kindN b≤6:=by unfold kindN;repeat' split <;> first | (constructor <;> decide) | skip
theorem pfHead_B {M k:Nat} {p p':Proof} {w:List ByteArray} (h:PfB M k p) (e:pfHead p w=some p'):PfB M (k+1) p'∧p'.Kind≠0∧p'.Part=p.Part:=by
  unfold pfHead at e;split at e
  · split at e
    · rename_i hc;cases e;exact ⟨⟨by have:=h.len;simp only;omega,h.sq,h.ot,h.pt,h.fl,kindN_rng _⟩,hc.2,rfl⟩
    · cases e
  · cases e
def PfI (p:Proof) (st:Int):Prop:=0≤st∧st≤3∧(st=2→p.Part≠[])∧(st < 2→p.Part=[])
theorem pfAdd_kind {p p':Proof} {j:Int} {n:List Int} (e:pfAdd p j n=some p'):p'.Kind=p.Kind:=by
  unfold pfAdd at e
  repeat' split at e
  all_goals first | (cases e;rfl) | cases e
theorem pfAdd_I {p p':Proof} {j st:Int} {n:List Int} (hj:j = -1∨j=0∨j=1∨j=2∨j=3) (h:PfI p st) (hl:¬ j < st) (e:pfAdd p j n=some p'):PfI p' j:=by
  obtain ⟨h0,h3,h2,h1⟩:=h;unfold pfAdd at e;split at e
  · cases e;exact ⟨by omega,by omega,by omega,by omega⟩
  · split at e
    · split at e
      · rename_i hc;cases e;exact ⟨by omega,by omega,fun _=>hc.1,by omega⟩
      · cases e
    · split at e
      · split at e
        · cases e;exact ⟨by omega,by omega,by omega,fun _=>h1 (by omega)⟩
        · split at e
          · cases e;exact ⟨by omega,by omega,by omega,fun _=>h1 (by omega)⟩
          · cases e
      · cases e
theorem pfLine_B {M k:Nat} {p p':Proof} {st st':Int} {w:List ByteArray} (h:PfB M k p) (hI:PfI p st) (hn:w.length≤M+1) (e:pfLine p st w=some (p',st')):PfB M (k+1) p'∧PfI p' st'∧p'.Kind=p.Kind:=by
  unfold pfLine at e;split at e
  · cases e
  · rename_i w0 ws;split at e
    · cases e
    · rename_i n hr;split at e
      · cases e
      · rename_i hlt;split at e
        · cases e
        · rename_i p2 h2;cases e;have hl:=rdNums_len hr;exact ⟨pfAdd_B h (by rw [List.length_cons] at hn;omega) (rdNums_sm hr) h2,pfAdd_I (placeW_rng w0) hI hlt h2,pfAdd_kind h2⟩
theorem pfFold_ok {M:Nat} (ls:List ByteArray):∀ (i:Nat) (x x':Proof × Int),(∀ l,l∈ls→l.size≤M)→PfB M i x.1→PfI x.1 x.2→(i≠0→x.1.Kind≠0)→rdFold pfSt ls i x=.ok x'→PfB M (i+ls.length) x'.1∧PfI x'.1 x'.2∧(i+ls.length≠0→x'.1.Kind≠0):=by
  induction ls with
  | nil=>intro i x x' _ h1 h2 h3 h;cases h;exact ⟨h1,h2,h3⟩
  | cons l ls ih =>
    intro i x x' hs h1 h2 h3 h;have hw:=wordsB_len l;have hl:=hs l (by simp);simp only [rdFold] at h;have key:∀ y,pfSt i x l=.ok y→PfB M (i+1) y.1∧PfI y.1 y.2∧y.1.Kind≠0:=by
      intro y hy;unfold pfSt at hy;by_cases hi:i=0
      · rw [if_pos hi] at hy;cases hh:pfHead x.1 (wordsB l) with
        | none=>rw [hh] at hy;cases hy
        | some p'=>rw [hh] at hy;cases hy;obtain ⟨k1,k2,k3⟩:=pfHead_B h1 hh;obtain ⟨a,b,c,d⟩:=h2;exact ⟨k1,⟨a,b,fun e=>by rw [k3];exact c e,fun e=>by rw [k3];exact d e⟩,k2⟩
      · rw [if_neg hi] at hy;cases hh:pfLine x.1 x.2 (wordsB l) with
        | none=>rw [hh] at hy;cases hy
        | some y'=>rw [hh] at hy;cases hy;obtain ⟨k1,k2,k3⟩:=pfLine_B h1 h2 (by omega) hh;exact ⟨k1,k2,by rw [k3];exact h3 hi⟩
    cases hr:pfSt i x l with
    | error c=>rw [hr] at h;cases h
    | ok y=>rw [hr] at h;obtain ⟨k1,k2,k3⟩:=key y hr;have:=ih (i+1) y x' (fun l hl=>hs l (by simp [hl])) k1 k2 (fun _=>k3) h;rw [List.length_cons,show i+(ls.length+1)=i+1+ls.length by omega];exact this
theorem c_ParseInt (b:ByteArray) (hb:b.size≤1048576) (w:World) (I:Nat→Prop) (hG:GI TabG w I):Calls Tryz.prog 102 #[.string b,.int .i64 10,.int .i64 64] w fun e w'=>Below w.heap.size w w'∧((∃ v,Lib.parseIntB 64 b.data.toList=.ok v∧e=.returned (.tuple #[.int .i64 v,.nilIface]))∨((∀ v,Lib.parseIntB 64 b.data.toList≠.ok v)∧∃ (x:Int) (t:TypeId) (N:Nat),e=.returned (.tuple #[.int .i64 x,.iface t (.pointer (some ⟨N,0,none⟩))]))):=by
  obtain ⟨J,hJ,_,_,⟨⟨s1,s2,hs⟩,⟨r1,r2,hr⟩,_,_,_,_⟩⟩:=hG;have es:gSyn=Tryz.lays174_ren.g 15:=(by kernel_rfl);have er:gRan=Tryz.lays174_ren.g 16:=(by kernel_rfl);rw [es] at hs;rw [er] at hr;rcases h:Lib.parseIntB 64 b.data.toList with v | _ | _
  · refine (Any.strconv_ParseInt_10_at64_ok Tryz.lays174 b (by omega) v h w).mono ?_;rintro e w' ⟨rfl,hw⟩;refine ⟨?_,.inl ⟨v,rfl,rfl⟩⟩;rcases hw with rfl | ⟨t,rfl⟩
    · exact Below.refl _ _
    · exact Lib.bytesWorld_below _ _ _
  · refine (Any.strconv_ParseInt_10_at64_syntax Tryz.lays174 b (by omega) h _ w hs (.inr ⟨_,_,rfl⟩)).mono ?_;rintro e w' ⟨N,rfl,_,_,hB⟩;exact ⟨hB,.inr ⟨(fun v h=>by cases h),_,_,_,rfl⟩⟩
  · refine (Any.strconv_ParseInt_10_at64_range Tryz.lays174 b (by omega) h _ w hr (.inr ⟨_,_,rfl⟩)).mono ?_;rintro e w' ⟨N,rfl,_,_,hB⟩;exact ⟨hB,.inr ⟨(fun v h=>by cases h),_,_,_,rfl⟩⟩
theorem parse_in {b:ByteArray} {v:Int} (h:Lib.parseIntB 64 b.data.toList=.ok v):InK .i64 v:=by have:=Lib.parseIntB_bounds h;unfold InK;simp only [Nat.reduceSub,Nat.reducePow] at this;omega
theorem c_ReadDecimal_err (b:ByteArray) (w:World) (Q:World→Prop)
    (hP:Calls Tryz.prog 102 #[.string b,.int .i64 10,.int .i64 64] w fun e w'=>Q w'∧∃ (x:Int) (t:TypeId) (N:Nat),e=.returned (.tuple #[.int .i64 x,.iface t (.pointer (some ⟨N,0,none⟩))])) :
    Calls Tryz.prog 75 #[.string b] w fun e w'=>e=.returned (.tuple #[.int .i64 0,.bool false])∧Q w':=by
  go_enter Tryz.func75,Tryz.ntmps75;go_wp2_with (go_at_call 102;refine hP.mono ?_;rintro e w2 ⟨hB,x,t,N,rfl⟩)
  go_ret2
  exact ⟨rfl,hB⟩
theorem c_ReadDecimal_a (b:ByteArray) (w:World) (Q:World→Prop) (v:Int)
    (hP:Calls Tryz.prog 102 #[.string b,.int .i64 10,.int .i64 64] w fun e w'=>Q w'∧e=.returned (.tuple #[.int .i64 v,.nilIface]))
    (hW:∀ W,Q W→Calls Tryz.prog 60 #[.int .i64 v,.int .i64 (-1000000000),.int .i64 1000000000] W fun e w'=>Q w'∧e=.returned (.bool false)) :
    Calls Tryz.prog 75 #[.string b] w fun e w'=>e=.returned (.tuple #[.int .i64 0,.bool false])∧Q w':=by
  go_enter Tryz.func75,Tryz.ntmps75;go_wp2_with (first
    | (go_at_call 102;refine hP.mono ?_;rintro e w2 ⟨hB,rfl⟩)
    | (go_at_call 60;refine (hW _ (by assumption)).mono ?_;rintro e w3 ⟨hB3,rfl⟩))
  go_ret2
  exact ⟨rfl,by assumption⟩
theorem c_ReadDecimal_b (b:ByteArray) (w:World) (Q:World→Prop) (v:Int) (d:ByteArray) (hne:¬ d=b)
    (hP:Calls Tryz.prog 102 #[.string b,.int .i64 10,.int .i64 64] w fun e w'=>Q w'∧e=.returned (.tuple #[.int .i64 v,.nilIface]))
    (hW:∀ W,Q W→Calls Tryz.prog 60 #[.int .i64 v,.int .i64 (-1000000000),.int .i64 1000000000] W fun e w'=>Q w'∧e=.returned (.bool true))
    (hD:∀ W,Q W→Calls Tryz.prog 103 #[.int .i64 v] W fun e w'=>Q w'∧e=.returned (.string d)) :
    Calls Tryz.prog 75 #[.string b] w fun e w'=>e=.returned (.tuple #[.int .i64 0,.bool false])∧Q w':=by
  go_enter Tryz.func75,Tryz.ntmps75;go_wp2_with (first
    | (go_at_call 102;refine hP.mono ?_;rintro e w2 ⟨hB,rfl⟩)
    | (go_at_call 60;refine (hW _ (by assumption)).mono ?_;rintro e w3 ⟨hB3,rfl⟩)
    | (go_at_call 103;refine (hD _ (by assumption)).mono ?_;rintro e w4 ⟨hB4,rfl⟩))
  · go_ret2
    exact ⟨rfl,by assumption⟩
  · exfalso;rename_i hq;rw [Bool.not_eq_false',beq_iff_eq,ByteArray.toList_eq,ByteArray.toList_eq] at hq;exact hne (ByteArray.ext (Array.toList_inj.1 hq))
theorem c_ReadDecimal_c (b:ByteArray) (w:World) (Q:World→Prop) (v:Int)
    (hP:Calls Tryz.prog 102 #[.string b,.int .i64 10,.int .i64 64] w fun e w'=>Q w'∧e=.returned (.tuple #[.int .i64 v,.nilIface]))
    (hW:∀ W,Q W→Calls Tryz.prog 60 #[.int .i64 v,.int .i64 (-1000000000),.int .i64 1000000000] W fun e w'=>Q w'∧e=.returned (.bool true))
    (hD:∀ W,Q W→Calls Tryz.prog 103 #[.int .i64 v] W fun e w'=>Q w'∧e=.returned (.string b)) :
    Calls Tryz.prog 75 #[.string b] w fun e w'=>e=.returned (.tuple #[.int .i64 v,.bool true])∧Q w':=by
  go_enter Tryz.func75,Tryz.ntmps75;go_wp2_with (first
    | (go_at_call 102;refine hP.mono ?_;rintro e w2 ⟨hB,rfl⟩)
    | (go_at_call 60;refine (hW _ (by assumption)).mono ?_;rintro e w3 ⟨hB3,rfl⟩)
    | (go_at_call 103;refine (hD _ (by assumption)).mono ?_;rintro e w4 ⟨hB4,rfl⟩))
  go_ret2
  exact ⟨rfl,by assumption⟩
theorem v_ReadDecimal_impl (b:ByteArray) (hb:b.size≤1048576):Contract Tryz.prog TabG 75 [.v (.string b)] (rdR (readD b)):=by
  refine ⟨fun us W=>by kernel_rfl,fun w I us hG hI hV=>?_⟩;simp only [Vals,T] at hV;obtain ⟨_,_,_,_,rfl,_,⟨rfl,_⟩,rfl,_⟩:=hV;have key:Calls Tryz.prog 75 #[.string b] w fun e w'=>e=.returned (.tuple #[.int .i64 ((readD b).getD 0),.bool (readD b).isSome])∧Below w.heap.size w w':=by
    have hP:=c_ParseInt b hb w I hG;have hW:∀ (v:Int) W,Below w.heap.size w W→Calls Tryz.prog 60 #[.int .i64 v,.int .i64 (-1000000000),.int .i64 1000000000] W fun e w'=>Below w.heap.size w w'∧e=.returned (.bool (inR (-1000000000) 1000000000 v)):=fun v W hB=>by refine ((v_within v (-1000000000) 1000000000).2 W I [.int .i64 v,.int .i64 (-1000000000),.int .i64 1000000000] (GI.keep tabG hG fun x hx=>hB.block x (hI x hx)) (fun x hx=>Nat.lt_of_lt_of_le (hI x hx) hB.size) (by simp only [Vals,T];exact ⟨_,_,[],[],rfl,rfl,⟨rfl,rfl⟩,_,_,[],[],rfl,rfl,⟨rfl,rfl⟩,_,_,[],[],rfl,rfl,⟨rfl,rfl⟩,rfl,rfl⟩)).mono ?_;rintro e w' ⟨u,F,I',rfl,hB2,hT,_⟩;simp only [T] at hT;exact ⟨hB.trans (hB2.mono hB.size),by rw [hT.1]⟩
    have hD:∀ (v:Int),InK .i64 v→∀ W,Below w.heap.size w W→Calls Tryz.prog 103 #[.int .i64 v] W fun e w'=>Below w.heap.size w w'∧e=.returned (.string (decS v)):=fun v hv W hB=>by refine ((v_Decimal_impl v hv).2 W I [.int .i64 v] (GI.keep tabG hG fun x hx=>hB.block x (hI x hx)) (fun x hx=>Nat.lt_of_lt_of_le (hI x hx) hB.size) (by simp only [Vals,T];exact ⟨_,_,[],[],rfl,rfl,⟨rfl,rfl⟩,rfl,rfl⟩)).mono ?_;rintro e w' ⟨u,F,I',rfl,hB2,hT,_⟩;simp only [T] at hT;exact ⟨hB.trans (hB2.mono hB.size),by rw [hT.1]⟩
    rcases hp:Lib.parseIntB 64 b.data.toList with v | _ | _
    · have hin:=parse_in hp;have hP':Calls Tryz.prog 102 #[.string b,.int .i64 10,.int .i64 64] w fun e w'=>Below w.heap.size w w'∧e=.returned (.tuple #[.int .i64 v,.nilIface]):=by
        refine hP.mono ?_;rintro e w' ⟨hB,⟨v',h1,h2⟩ | ⟨h1,_⟩⟩
        · rw [hp] at h1;cases h1;exact ⟨hB,h2⟩
        · exact absurd hp (h1 v)
      have hw1:=hW v;have hd1:=hD v hin;cases hi:inR (-1000000000) 1000000000 v with
      | false =>
        rw [hi] at hw1;have hN:readD b=none:=by
          cases h:readD b with
          | none=>rfl
          | some n=>obtain ⟨h1,h2⟩:=readD_iff.1 h;have:=parse_dec h1;rw [h2,hp] at this;cases this;rw [inR_iff.2 h1] at hi;cases hi
        rw [hN];exact c_ReadDecimal_a b w _ v hP' hw1
      | true =>
        rw [hi] at hw1;by_cases hd:decS v=b
        · have hN:readD b=some v:=readD_iff.2 ⟨inR_iff.1 hi,hd⟩;rw [hN];rw [hd] at hd1;exact c_ReadDecimal_c b w _ v hP' hw1 hd1
        · have hN:readD b=none:=by
            cases h:readD b with
            | none=>rfl
            | some n=>obtain ⟨h1,h2⟩:=readD_iff.1 h;have:=parse_dec h1;rw [h2,hp] at this;cases this;exact absurd h2 hd
          rw [hN];exact c_ReadDecimal_b b w _ v _ hd hP' hw1 hd1
    · have hN:readD b=none:=by
        cases h:readD b with
        | none=>rfl
        | some n=>obtain ⟨h1,h2⟩:=readD_iff.1 h;have:=parse_dec h1;rw [h2,hp] at this;cases this
      rw [hN];refine c_ReadDecimal_err b w _ (hP.mono ?_);rintro e w' ⟨hB,⟨v',h1,h2⟩ | ⟨_,h2⟩⟩
      · rw [hp] at h1;cases h1
      · exact ⟨hB,h2⟩
    · have hN:readD b=none:=by
        cases h:readD b with
        | none=>rfl
        | some n=>obtain ⟨h1,h2⟩:=readD_iff.1 h;have:=parse_dec h1;rw [h2,hp] at this;cases this
      rw [hN];refine c_ReadDecimal_err b w _ (hP.mono ?_);rintro e w' ⟨hB,⟨v',h1,h2⟩ | ⟨_,h2⟩⟩
      · rw [hp] at h1;cases h1
      · exact ⟨hB,h2⟩
  refine key.mono ?_;rintro e w' ⟨rfl,hB⟩;refine ⟨_,[],I,rfl,hB,?_,List.nodup_nil,(fun b h=>by cases h),fun b h=>h,fun b h=>⟨.inl h,Nat.lt_of_lt_of_le (hI b h) hB.size⟩⟩;unfold rdR;generalize (readD b).getD 0=x;generalize (readD b).isSome=y;simp only [T,Vals];exact ⟨_,rfl,_,_,[],[],rfl,rfl,⟨rfl,rfl⟩,_,_,[],[],rfl,rfl,⟨rfl,rfl⟩,rfl,rfl⟩
end Go.Proofs.YtjkbngjiagknkaaGreatDoor
