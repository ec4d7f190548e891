/- Laws that the proof stands on. -/
import Derived.Test.YtjkbngjiagknkaaGreatDoorZg17
import Derived.Shelf.Strconv.ParseIntPublic10
import Derived.Test.YtjkbngjiagknkaaGreatDoorZg5
import Derived.WalkKit
import Derived.BigCall
import Derived.BigGuard
import Derived.Test.YtjkbngjiagknkaaGreatDoorZVTab
set_option linter.all false
namespace Go.Proofs.YtjkbngjiagknkaaGreatDoor
open Go.RowKit Go.V
set_option maxRecDepth 100000
theorem len3 {w:List ByteArray} (h:w.length=3):∃ a b c,w=[a,b,c]:=by
  match w,h with
  | [a,b,c],_=>exact ⟨a,b,c,rfl⟩
theorem len6 {w:List ByteArray} (h:w.length=6):∃ a b c d e f,w=[a,b,c,d,e,f]:=by
  match w,h with
  | [a,b,c,d,e,f],_=>exact ⟨a,b,c,d,e,f,rfl⟩
structure Wd (L:List (List D)) (ws:List ByteArray):Prop where
  len:L.length=ws.length
  at':∀ (k:Nat) (h:k < ws.length),L[Int.toNat (k:Int)]?=some [.v (.string ws[k])]
  lt:∀ (k:Nat),k < ws.length→((k:Int) < (L.length:Int))=True
theorem wd_map (ws:List ByteArray):Wd (ws.map rS) ws where
  len:=by simp
  at':=fun k h=>by rw [Int.toNat_natCast,List.getElem?_map,List.getElem?_eq_getElem h];rfl
  lt:=fun k h=>by rw [List.length_map];exact eq_true (by omega)
structure Nd (L:List (List D)) (ns:List Int):Prop where
  len:L.length=ns.length
  at':∀ (k:Nat) (h:k < ns.length),L[Int.toNat (k:Int)]?=some [.v (.int .i64 ns[k])]
  lt:∀ (k:Nat),k < ns.length→((k:Int) < (L.length:Int))=True
  imm:immLL L=L
theorem rdFold_app {α:Type} (st:Nat→α→ByteArray→Except Int α):∀ (l1 l2:List ByteArray) (k:Nat) (a:α),rdFold st (l1++l2) k a=match rdFold st l1 k a with
    | .ok a'=>rdFold st l2 (k+l1.length) a'
    | .error e=>.error e
  | [],l2,k,a=>by simp [rdFold]
  | x::l1,l2,k,a=>by
    simp only [List.cons_append,rdFold];cases h:st k a x with
    | error c=>rfl
    | ok a'=>simp only;rw [rdFold_app st l1 l2 (k+1) a',List.length_cons,show k+1+l1.length=k+(l1.length+1) by omega]
theorem rdFold_ok {α:Type} {st:Nat→α→ByteArray→Except Int α} {ls:List ByteArray} {i:Nat} {a0 a a':α} (h:i < ls.length) (h1:rdFold st (ls.take i) 0 a0=.ok a) (h2:st i a ls[i]=.ok a'):rdFold st (ls.take (i+1)) 0 a0=.ok a':=by rw [List.take_succ,List.getElem?_eq_getElem h,rdFold_app,h1];simp only [Option.toList,rdFold];rw [List.length_take,show 0+min i ls.length=i by omega,h2]
theorem rdFold_err {α:Type} {st:Nat→α→ByteArray→Except Int α} {ls:List ByteArray} {i:Nat} {a0 a:α} {c:Int} (h:i < ls.length) (h1:rdFold st (ls.take i) 0 a0=.ok a) (h2:st i a ls[i]=.error c):rdFold st ls 0 a0=.error (i+1,c):=by have e:ls=ls.take i++(ls[i]::ls.drop (i+1)):=(by rw [List.getElem_cons_drop,List.take_append_drop]);rw [e,rdFold_app,h1];simp only [rdFold];rw [List.length_take,show 0+min i ls.length=i by omega,h2]
theorem c_ParseInt (b:ByteArray) (hb:b.size≤1048576) (w:World) (I:Nat→Prop) (hG:GI TabG w I):Calls Tryz.prog 102 #[.string b,.int .i64 10,.int .i64 64] w fun e w'=>Below w.heap.size w w'∧((∃ v,Lib.parseIntB 64 b.data.toList=.ok v∧e=.returned (.tuple #[.int .i64 v,.nilIface]))∨((∀ v,Lib.parseIntB 64 b.data.toList≠.ok v)∧∃ (x:Int) (t:TypeId) (N:Nat),e=.returned (.tuple #[.int .i64 x,.iface t (.pointer (some ⟨N,0,none⟩))]))):=by
  obtain ⟨J,hJ,_,_,⟨⟨s1,s2,hs⟩,⟨r1,r2,hr⟩,_,_,_,_⟩⟩:=hG;have es:gSyn=Tryz.lays174_ren.g 15:=(by kernel_rfl);have er:gRan=Tryz.lays174_ren.g 16:=(by kernel_rfl);rw [es] at hs;rw [er] at hr;rcases h:Lib.parseIntB 64 b.data.toList with v | _ | _
  · refine (Any.strconv_ParseInt_10_at64_ok Tryz.lays174 b (by omega) v h w).mono ?_;rintro e w' ⟨rfl,hw⟩;refine ⟨?_,.inl ⟨v,rfl,rfl⟩⟩;rcases hw with rfl | ⟨t,rfl⟩
    · exact Below.refl _ _
    · exact Lib.bytesWorld_below _ _ _
  · refine (Any.strconv_ParseInt_10_at64_syntax Tryz.lays174 b (by omega) h _ w hs (.inr ⟨_,_,rfl⟩)).mono ?_;rintro e w' ⟨N,rfl,_,_,hB⟩;exact ⟨hB,.inr ⟨(fun v h=>by cases h),_,_,_,rfl⟩⟩
  · refine (Any.strconv_ParseInt_10_at64_range Tryz.lays174 b (by omega) h _ w hr (.inr ⟨_,_,rfl⟩)).mono ?_;rintro e w' ⟨N,rfl,_,_,hB⟩;exact ⟨hB,.inr ⟨(fun v h=>by cases h),_,_,_,rfl⟩⟩
theorem parse_in {b:ByteArray} {v:Int} (h:Lib.parseIntB 64 b.data.toList=.ok v):InK .i64 v:=by have:=Lib.parseIntB_bounds h;unfold InK;simp only [Nat.reduceSub,Nat.reducePow] at this;omega
theorem c_ReadDecimal_err (b:ByteArray) (w:World) (Q:World→Prop)
    (hP:Calls Tryz.prog 102 #[.string b,.int .i64 10,.int .i64 64] w fun e w'=>Q w'∧∃ (x:Int) (t:TypeId) (N:Nat),e=.returned (.tuple #[.int .i64 x,.iface t (.pointer (some ⟨N,0,none⟩))])) :
    Calls Tryz.prog 75 #[.string b] w fun e w'=>e=.returned (.tuple #[.int .i64 0,.bool false])∧Q w':=by
  go_enter Tryz.func75,Tryz.ntmps75;go_wp2_with (go_at_call 102;refine hP.mono ?_;rintro e w2 ⟨hB,x,t,N,rfl⟩)
  go_ret2
  exact ⟨rfl,hB⟩
theorem c_ReadDecimal_a (b:ByteArray) (w:World) (Q:World→Prop) (v:Int)
    (hP:Calls Tryz.prog 102 #[.string b,.int .i64 10,.int .i64 64] w fun e w'=>Q w'∧e=.returned (.tuple #[.int .i64 v,.nilIface]))
    (hW:∀ W,Q W→Calls Tryz.prog 60 #[.int .i64 v,.int .i64 (-1000000000),.int .i64 1000000000] W fun e w'=>Q w'∧e=.returned (.bool false)) :
    Calls Tryz.prog 75 #[.string b] w fun e w'=>e=.returned (.tuple #[.int .i64 0,.bool false])∧Q w':=by
  go_enter Tryz.func75,Tryz.ntmps75;go_wp2_with (first
    | (go_at_call 102;refine hP.mono ?_;rintro e w2 ⟨hB,rfl⟩)
    | (go_at_call 60;refine (hW _ (by assumption)).mono ?_;rintro e w3 ⟨hB3,rfl⟩))
  go_ret2
  exact ⟨rfl,by assumption⟩
theorem c_ReadDecimal_b (b:ByteArray) (w:World) (Q:World→Prop) (v:Int) (d:ByteArray) (hne:¬ d=b)
    (hP:Calls Tryz.prog 102 #[.string b,.int .i64 10,.int .i64 64] w fun e w'=>Q w'∧e=.returned (.tuple #[.int .i64 v,.nilIface]))
    (hW:∀ W,Q W→Calls Tryz.prog 60 #[.int .i64 v,.int .i64 (-1000000000),.int .i64 1000000000] W fun e w'=>Q w'∧e=.returned (.bool true))
    (hD:∀ W,Q W→Calls Tryz.prog 103 #[.int .i64 v] W fun e w'=>Q w'∧e=.returned (.string d)) :
    Calls Tryz.prog 75 #[.string b] w fun e w'=>e=.returned (.tuple #[.int .i64 0,.bool false])∧Q w':=by
  go_enter Tryz.func75,Tryz.ntmps75;go_wp2_with (first
    | (go_at_call 102;refine hP.mono ?_;rintro e w2 ⟨hB,rfl⟩)
    | (go_at_call 60;refine (hW _ (by assumption)).mono ?_;rintro e w3 ⟨hB3,rfl⟩)
    | (go_at_call 103;refine (hD _ (by assumption)).mono ?_;rintro e w4 ⟨hB4,rfl⟩))
  · go_ret2
    exact ⟨rfl,by assumption⟩
  · exfalso;rename_i hq;rw [Bool.not_eq_false',beq_iff_eq,ByteArray.toList_eq,ByteArray.toList_eq] at hq;exact hne (ByteArray.ext (Array.toList_inj.1 hq))
theorem c_ReadDecimal_c (b:ByteArray) (w:World) (Q:World→Prop) (v:Int)
    (hP:Calls Tryz.prog 102 #[.string b,.int .i64 10,.int .i64 64] w fun e w'=>Q w'∧e=.returned (.tuple #[.int .i64 v,.nilIface]))
    (hW:∀ W,Q W→Calls Tryz.prog 60 #[.int .i64 v,.int .i64 (-1000000000),.int .i64 1000000000] W fun e w'=>Q w'∧e=.returned (.bool true))
    (hD:∀ W,Q W→Calls Tryz.prog 103 #[.int .i64 v] W fun e w'=>Q w'∧e=.returned (.string b)) :
    Calls Tryz.prog 75 #[.string b] w fun e w'=>e=.returned (.tuple #[.int .i64 v,.bool true])∧Q w':=by
  go_enter Tryz.func75,Tryz.ntmps75;go_wp2_with (first
    | (go_at_call 102;refine hP.mono ?_;rintro e w2 ⟨hB,rfl⟩)
    | (go_at_call 60;refine (hW _ (by assumption)).mono ?_;rintro e w3 ⟨hB3,rfl⟩)
    | (go_at_call 103;refine (hD _ (by assumption)).mono ?_;rintro e w4 ⟨hB4,rfl⟩))
  go_ret2
  exact ⟨rfl,by assumption⟩
theorem v_ReadDecimal_impl (b:ByteArray) (hb:b.size≤1048576):Contract Tryz.prog TabG 75 [.v (.string b)] (rdR (readD b)):=by
  refine ⟨fun us W=>by kernel_rfl,fun w I us hG hI hV=>?_⟩;simp only [Vals,T] at hV;obtain ⟨_,_,_,_,rfl,_,⟨rfl,_⟩,rfl,_⟩:=hV;have key:Calls Tryz.prog 75 #[.string b] w fun e w'=>e=.returned (.tuple #[.int .i64 ((readD b).getD 0),.bool (readD b).isSome])∧Below w.heap.size w w':=by
    have hP:=c_ParseInt b hb w I hG;have hW:∀ (v:Int) W,Below w.heap.size w W→Calls Tryz.prog 60 #[.int .i64 v,.int .i64 (-1000000000),.int .i64 1000000000] W fun e w'=>Below w.heap.size w w'∧e=.returned (.bool (inR (-1000000000) 1000000000 v)):=fun v W hB=>by refine ((v_within v (-1000000000) 1000000000).2 W I [.int .i64 v,.int .i64 (-1000000000),.int .i64 1000000000] (GI.keep tabG hG fun x hx=>hB.block x (hI x hx)) (fun x hx=>Nat.lt_of_lt_of_le (hI x hx) hB.size) (by simp only [Vals,T];exact ⟨_,_,[],[],rfl,rfl,⟨rfl,rfl⟩,_,_,[],[],rfl,rfl,⟨rfl,rfl⟩,_,_,[],[],rfl,rfl,⟨rfl,rfl⟩,rfl,rfl⟩)).mono ?_;rintro e w' ⟨u,F,I',rfl,hB2,hT,_⟩;simp only [T] at hT;exact ⟨hB.trans (hB2.mono hB.size),by rw [hT.1]⟩
    have hD:∀ (v:Int),InK .i64 v→∀ W,Below w.heap.size w W→Calls Tryz.prog 103 #[.int .i64 v] W fun e w'=>Below w.heap.size w w'∧e=.returned (.string (decS v)):=fun v hv W hB=>by refine ((v_Decimal_impl v hv).2 W I [.int .i64 v] (GI.keep tabG hG fun x hx=>hB.block x (hI x hx)) (fun x hx=>Nat.lt_of_lt_of_le (hI x hx) hB.size) (by simp only [Vals,T];exact ⟨_,_,[],[],rfl,rfl,⟨rfl,rfl⟩,rfl,rfl⟩)).mono ?_;rintro e w' ⟨u,F,I',rfl,hB2,hT,_⟩;simp only [T] at hT;exact ⟨hB.trans (hB2.mono hB.size),by rw [hT.1]⟩
    rcases hp:Lib.parseIntB 64 b.data.toList with v | _ | _
    · have hin:=parse_in hp;have hP':Calls Tryz.prog 102 #[.string b,.int .i64 10,.int .i64 64] w fun e w'=>Below w.heap.size w w'∧e=.returned (.tuple #[.int .i64 v,.nilIface]):=by
        refine hP.mono ?_;rintro e w' ⟨hB,⟨v',h1,h2⟩ | ⟨h1,_⟩⟩
        · rw [hp] at h1;cases h1;exact ⟨hB,h2⟩
        · exact absurd hp (h1 v)
      have hw1:=hW v;have hd1:=hD v hin;cases hi:inR (-1000000000) 1000000000 v with
      | false =>
        rw [hi] at hw1;have hN:readD b=none:=by
          cases h:readD b with
          | none=>rfl
          | some n=>obtain ⟨h1,h2⟩:=readD_iff.1 h;have:=parse_dec h1;rw [h2,hp] at this;cases this;rw [inR_iff.2 h1] at hi;cases hi
        rw [hN];exact c_ReadDecimal_a b w _ v hP' hw1
      | true =>
        rw [hi] at hw1;by_cases hd:decS v=b
        · have hN:readD b=some v:=readD_iff.2 ⟨inR_iff.1 hi,hd⟩;rw [hN];rw [hd] at hd1;exact c_ReadDecimal_c b w _ v hP' hw1 hd1
        · have hN:readD b=none:=by
            cases h:readD b with
            | none=>rfl
            | some n=>obtain ⟨h1,h2⟩:=readD_iff.1 h;have:=parse_dec h1;rw [h2,hp] at this;cases this;exact absurd h2 hd
          rw [hN];exact c_ReadDecimal_b b w _ v _ hd hP' hw1 hd1
    · have hN:readD b=none:=by
        cases h:readD b with
        | none=>rfl
        | some n=>obtain ⟨h1,h2⟩:=readD_iff.1 h;have:=parse_dec h1;rw [h2,hp] at this;cases this
      rw [hN];refine c_ReadDecimal_err b w _ (hP.mono ?_);rintro e w' ⟨hB,⟨v',h1,h2⟩ | ⟨_,h2⟩⟩
      · rw [hp] at h1;cases h1
      · exact ⟨hB,h2⟩
    · have hN:readD b=none:=by
        cases h:readD b with
        | none=>rfl
        | some n=>obtain ⟨h1,h2⟩:=readD_iff.1 h;have:=parse_dec h1;rw [h2,hp] at this;cases this
      rw [hN];refine c_ReadDecimal_err b w _ (hP.mono ?_);rintro e w' ⟨hB,⟨v',h1,h2⟩ | ⟨_,h2⟩⟩
      · rw [hp] at h1;cases h1
      · exact ⟨hB,h2⟩
  refine key.mono ?_;rintro e w' ⟨rfl,hB⟩;refine ⟨_,[],I,rfl,hB,?_,List.nodup_nil,(fun b h=>by cases h),fun b h=>h,fun b h=>⟨.inl h,Nat.lt_of_lt_of_le (hI b h) hB.size⟩⟩;unfold rdR;generalize (readD b).getD 0=x;generalize (readD b).isSome=y;simp only [T,Vals];exact ⟨_,rfl,_,_,[],[],rfl,rfl,⟨rfl,rfl⟩,_,_,[],[],rfl,rfl,⟨rfl,rfl⟩,rfl,rfl⟩
end Go.Proofs.YtjkbngjiagknkaaGreatDoor
