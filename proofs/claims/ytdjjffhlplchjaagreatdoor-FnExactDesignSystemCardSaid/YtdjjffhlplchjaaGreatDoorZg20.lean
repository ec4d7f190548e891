/- Laws that the proof stands on. -/
import Derived.Test.YtdjjffhlplchjaaGreatDoorZg14
import Derived.Test.YtdjjffhlplchjaaGreatDoorZg16
import Derived.Test.YtdjjffhlplchjaaGreatDoorZVTab
import Derived.Test.YtdjjffhlplchjaaGreatDoorZVDsnP
import Derived.Test.YtdjjffhlplchjaaGreatDoorZVBkPiece
set_option linter.all false
namespace Go.Proofs.YtdjjffhlplchjaaGreatDoor
open Go.RowKit Go.V
attribute [local go_sem] List.getElem?_cons_succ List.getElem?_cons_zero List.set_cons_succ List.set_cons_zero List.map_cons List.map_nil List.length_cons List.length_nil List.all_cons List.all_nil List.drop_succ_cons List.drop_zero List.take_succ_cons List.take_zero List.flatMap_cons List.flatMap_nil List.cons_append List.nil_append List.append_nil List.headD_cons Value.oneCell' Bool.and_true Bool.true_and Bool.or_false Bool.false_or Bool.and_self Bool.not_true Bool.not_false and_true true_and beq_self_eq_true Bool.false_eq_true if_true if_false Nat.zero_add Nat.reduceAdd Nat.reduceMul Nat.reduceLeDiff Nat.le_refl Option.isSome_some Option.isSome_none not_true_eq_false not_false_eq_true ne_eq reduceCtorEq List.reverse_nil bne_self_eq_false Nat.reduceEqDiff List.isPrefixOf Bool.not_eq_true Bool.and_false Bool.false_and Bool.true_or Bool.or_true decide_true decide_false Nat.reduceBEq Nat.reduceBNe List.replicate_succ List.replicate_zero exists_eq_left' exists_eq_left Option.some.injEq or_false or_true true_or false_or Option.map_some Option.map_none mB Nat.reduceMod Nat.reduceDiv
set_option maxRecDepth 100000
def bytS (l : List UInt8) : ByteArray:=⟨l.toArray⟩
def zTh (n : Int) : ByteArray:=⟨(zMi n).toArray⟩
def zTg (u : Nat) : List UInt8:=if u = 0 then [] else Lib.decDigits u
theorem zRi {u : Nat} (h : u ≠ 0) : zTg u = zTg (u / 10) ++ [UInt8.ofNat (48 + u % 10)]:=by
  unfold zTg;rw [if_neg h,Lib.decDigits];by_cases h9 : u < 10
  · rw [dif_pos h9,if_pos (by omega),Nat.mod_eq_of_lt h9];rfl
  · rw [dif_neg h9,if_neg (by omega)]
theorem zUt {u k : Nat} (h : u < 10 ^ k) : (zTg u).length ≤ k:=by
  induction k generalizing u with
  | zero => have : u = 0:=by omega
            subst this;simp [zTg]
  | succ k ih =>
    by_cases h0 : u = 0
    · subst h0;simp [zTg]
    · rw [zRi h0,List.length_append];have:=ih (u:=u / 10) (by rw [Nat.pow_succ] at h;omega);simp only [List.length_cons,List.length_nil];omega
theorem zMt (n : Int) (hn : InK .i64 n) : (zTh n).size ≤ 20:=by
  have hn' : -9223372036854775808 ≤ n ∧ n ≤ 9223372036854775807:=(by have:=hn;unfold InK at this;omega);have h1 : (zTh n).size = (zMi n).length:=rfl;have h2 : ∀ u : Nat,u < 10 ^ 19 → (Lib.decDigits u).length ≤ 19:=by
    intro u hu;by_cases h0 : u = 0
    · subst h0;rw [Lib.decDigits];simp
    · have:=zUt hu;unfold zTg at this;rwa [if_neg h0] at this
  rw [h1];unfold zMi Lib.itoa;by_cases h : n < 0
  · rw [if_pos h,List.length_cons];have:=h2 n.natAbs (by omega);omega
  · rw [if_neg h];have:=h2 n.toNat (by omega)
    omega
def code_impl_Decimal : VCode:=(.seq (.ops [
  ⟨(some 2),none,(.asg (.const (.string ⟨⟨[]⟩⟩)))⟩]) (.seq (.ops [
  ⟨(some 3),none,(.mv (.tmp 0))⟩,
  ⟨(some 4),none,(.callX 115 [(.tmp 3),(.const (.int .i64 10))])⟩,
  ⟨(some 2),none,(.asg (.tmp 4))⟩]) .ret))
theorem zK4 {a0 d : D} (h : code_impl_Decimal.wp (CT Tryz.prog zA6) (zE6 [(.t 2)] d) [a0,.undef,.undef,.undef,.undef]) : Contract Tryz.prog zA6 79 [a0] d :=
  zAo (pt:=0) zEn Tryz.func79 (fun us W => by kernel_rfl) (c:=Tryz.f79.body.getD .skip) (ms:=[]) (ms':=[]) (by kernel_rfl) (by kernel_rfl) (by kernel_rfl) h
theorem zHj (n : Int) (hn : InK .i64 n) : Contract Tryz.prog zA6 79 [.v (.int .i64 n)] (.v (.string (zTh n))):=by refine zK4 ?_;unfold code_impl_Decimal;simp -implicitDefEqProofs (disch:=omega) only [go_sem,↓reduceIte];refine zAp (zR1 n hn) (by simp -implicitDefEqProofs (disch:=omega) only [go_sem,↓reduceIte,deep,TD.rows,zAe,zAc,zAf,zAb,zAd,zAa];exact rfl) ?_;simp -implicitDefEqProofs (disch:=omega) only [go_sem,↓reduceIte];rfl
def code_spec_Decimal : VCode:=(.seq (.ops [
  ⟨(some 2),none,(.asg (.const (.string ⟨⟨[]⟩⟩)))⟩]) (.seq (.ops [
  ⟨(some 3),none,(.asg (.const (.string ⟨⟨[]⟩⟩)))⟩]) (.seq (.ops [
  ⟨(some 6),none,(.mv (.tmp 0))⟩,
  ⟨(some 4),none,(.asg (.tmp 6))⟩]) (.seq (.block 0 (.loop (mB 31 2147483622) (.seq (.seq (.ops [
  ⟨(some 7),none,(.mv (.tmp 4))⟩,
  ⟨(some 8),none,(.bin .neq (.tmp 7) (.const (.int .i64 0)))⟩]) (.cond (.tmp 8) .skip (.exit 0))) (.block 1 (.seq (.ops [
  ⟨(some 9),none,(.mv (.tmp 4))⟩,
  ⟨(some 10),none,(.bin .rem (.tmp 9) (.const (.int .i64 10)))⟩,
  ⟨(some 5),none,(.asg (.tmp 10))⟩]) (.seq (.seq (.ops [
  ⟨(some 11),none,(.mv (.tmp 5))⟩,
  ⟨(some 12),none,(.bin .lss (.tmp 11) (.const (.int .i64 0)))⟩]) (.cond (.tmp 12) (.ops [
  ⟨(some 13),none,(.mv (.tmp 5))⟩,
  ⟨(some 14),none,(.un .neg (.tmp 13))⟩,
  ⟨(some 5),none,(.asg (.tmp 14))⟩]) .skip)) (.seq (.ops [
  ⟨(some 15),none,(.mv (.tmp 5))⟩,
  ⟨(some 16),none,(.bin .add (.const (.int .i64 48)) (.tmp 15))⟩,
  ⟨(some 17),none,(.conv .u8 (.tmp 16))⟩,
  ⟨(some 18),none,(.bsl 1 [(.tmp 17)])⟩,
  ⟨(some 19),none,(.b2s (.tmp 18))⟩,
  ⟨(some 20),none,(.mv (.tmp 3))⟩,
  ⟨(some 21),none,(.bin .add (.tmp 19) (.tmp 20))⟩,
  ⟨(some 3),none,(.asg (.tmp 21))⟩]) (.ops [
  ⟨(some 22),none,(.mv (.tmp 4))⟩,
  ⟨(some 23),none,(.bin .quo (.tmp 22) (.const (.int .i64 10)))⟩,
  ⟨(some 4),none,(.asg (.tmp 23))⟩])))))))) (.seq (.seq (.ops [
  ⟨(some 24),none,(.mv (.tmp 0))⟩,
  ⟨(some 25),none,(.bin .eql (.tmp 24) (.const (.int .i64 0)))⟩]) (.cond (.tmp 25) (.seq (.ops [
  ⟨(some 2),none,(.asg (.const (.string ⟨⟨[48]⟩⟩)))⟩]) .ret) .skip)) (.seq (.seq (.ops [
  ⟨(some 26),none,(.mv (.tmp 0))⟩,
  ⟨(some 27),none,(.bin .lss (.tmp 26) (.const (.int .i64 0)))⟩]) (.cond (.tmp 27) (.seq (.ops [
  ⟨(some 28),none,(.mv (.tmp 3))⟩,
  ⟨(some 29),none,(.bin .add (.const (.string ⟨⟨[45]⟩⟩)) (.tmp 28))⟩,
  ⟨(some 2),none,(.asg (.tmp 29))⟩]) .ret) .skip)) (.seq (.ops [
  ⟨(some 30),none,(.mv (.tmp 3))⟩,
  ⟨(some 2),none,(.asg (.tmp 30))⟩]) .ret)))))))
theorem zKz {a0 d : D} (h : code_spec_Decimal.wp (CT Tryz.prog zA6) (zE6 [(.t 2)] d) [a0,.undef,.undef,.undef,.undef,.undef,.undef,.undef,.undef,.undef,.undef,.undef,.undef,.undef,.undef,.undef,.undef,.undef,.undef,.undef,.undef,.undef,.undef,.undef,.undef,.undef,.undef,.undef,.undef,.undef,.undef]) : Contract Tryz.prog zA6 63 [a0] d :=
  zAo (pt:=0) zEn Tryz.func63 (fun us W => by kernel_rfl) (c:=Tryz.f63.body.getD .skip) (ms:=[(mB 31 2147483622)]) (ms':=[]) (by kernel_rfl) (by kernel_rfl) (by kernel_rfl) h
theorem zAv (n : Int) (hn : InK .i64 n) : Contract Tryz.prog zA6 63 [.v (.int .i64 n)] (.v (.string (zTh n))):=by
  refine zKz ?_;unfold code_spec_Decimal;have hn' : -9223372036854775808 ≤ n ∧ n ≤ 9223372036854775807:=by have:=hn;unfold InK at this;omega
  simp -implicitDefEqProofs (disch:=omega) only [go_sem,↓reduceIte];refine zCh (by simp -implicitDefEqProofs (disch:=omega) only [go_sem,↓reduceIte];exact rfl) (fun z : Int × List UInt8 => [(3,.v (.string (bytS z.2))),(4,.v (.int .i64 z.1))]) (fun _ => by simp only [zCb,zBo,List.set_cons_zero,List.set_cons_succ];exact rfl) (fun z : Int × List UInt8 => (-9223372036854775808 ≤ z.1 ∧ z.1 ≤ 9223372036854775807) ∧ zTg z.1.natAbs ++ z.2 = zTg n.natAbs) (fun z : Int × List UInt8 => z.1.natAbs) ((n,[])) (zDl) (?_) ?_
  · exact ⟨hn',by simp⟩
  rintro ⟨m,l⟩ ⟨h1,h2⟩;simp only at h1 h2;have hlen : (zTg n.natAbs).length ≤ 20:=zUt (k:=20) (by omega);have hl : l.length ≤ 20:=by rw [← h2,List.length_append] at hlen;omega
  have hsz : (bytS l).size = l.length:=rfl;by_cases hm : m = 0
  · subst hm;have e2 : l = zTg n.natAbs:=h2;by_cases h0 : n = 0
    · subst h0;simp -implicitDefEqProofs (disch:=omega) only [go_sem,↓reduceIte ,decide_true];have e : zMi 0 = [48]:=by simp [zMi,Lib.itoa,Lib.decDigits]
      unfold zTh;rw [e]
    · have hd : zTg n.natAbs = Lib.decDigits n.natAbs:=(by unfold zTg;rw [if_neg (by omega)]);by_cases h3 : n < 0
      · simp -implicitDefEqProofs (disch:=omega) only [go_sem,↓reduceIte ,h0,h3,decide_true,decide_false];refine ⟨by rw [hsz];unfold maxLen;show 1 + l.length ≤ _;omega,?_⟩;have e : zMi n = 45 :: l:=by unfold zMi Lib.itoa;rw [if_pos h3,e2,hd]
        unfold zTh bytS;rw [e];exact congrArg Value.string (by apply ByteArray.ext;simp)
      · simp -implicitDefEqProofs (disch:=omega) only [go_sem,↓reduceIte ,h0,h3,decide_true,decide_false];have e : zMi n = l:=by unfold zMi Lib.itoa;rw [if_neg h3,e2,hd];congr 1;omega
        unfold zTh bytS;rw [e]
  · obtain ⟨k,hk⟩ : ∃ k,k = m.natAbs % 10:=⟨_,rfl⟩
    have hk9 : k ≤ 9:=(by omega);have hm0 : m.natAbs ≠ 0:=(by omega);have hS : zXh [((48 + k : Nat) : Int)] ++ bytS l = bytS (UInt8.ofNat (48 + k) :: l):=(by apply ByteArray.ext;simp only [zXh,bytS,List.map_cons,List.map_nil,Int.toNat_natCast];simp);have hq : (m.tdiv 10).natAbs = m.natAbs / 10:=(by rw [Int.natAbs_tdiv];rfl);have hnext : zTg (m.natAbs / 10) ++ UInt8.ofNat (48 + k) :: l = zTg n.natAbs:=(by rw [← h2,zRi hm0,← hk,List.append_assoc];rfl);have hb10 : -9223372036854775808 ≤ m.tdiv 10 ∧ m.tdiv 10 ≤ 9223372036854775807:=(by have : (m.tdiv 10).natAbs ≤ 922337203685477580:=(by rw [hq];omega);omega);have hsz1 : (zXh [((48 + k : Nat) : Int)]).size = 1:=rfl;have w1 : IntKind.i64.wrap (48 + (k : Int)) = ((48 + k : Nat) : Int):=(by rw [wrI (by omega) (by omega)];omega);have w2 : IntKind.u8.wrap ((48 + k : Nat) : Int) = ((48 + k : Nat) : Int):=(by simp [IntKind.wrap,IntKind.signed,IntKind.bits];omega);by_cases h3 : m < 0
    · have hd : m.tmod 10 = -(k : Int):=by
        obtain ⟨u,rfl⟩ : ∃ u : Nat,m = -(u : Int):=⟨m.natAbs,by omega⟩
        rw [Int.neg_tmod];have : ((u : Int)).tmod 10 = ((u % 10 : Nat) : Int):=rfl;rw [this,hk];congr 2;omega
      have w3 : IntKind.i64.wrap (-(-(k : Int))) = (k : Int):=(by rw [wrI (by omega) (by omega)];omega);have w4 : IntKind.i64.wrap (0 - (-(k : Int))) = (k : Int):=(by rw [wrI (by omega) (by omega)];omega);simp -implicitDefEqProofs (disch:=omega) only [go_sem,↓reduceIte ,hm,hd];refine ⟨by omega,zAk ?_ ?_⟩ <;> intro hlt
      · simp -implicitDefEqProofs (disch:=omega) only [go_sem,↓reduceIte ,hm,hd,w1,w2,w3,w4];refine ⟨[((48 + k : Nat) : Int)],rfl,?_,by omega,(m.tdiv 10,UInt8.ofNat (48 + k) :: l),?_,⟨hb10,?_⟩,?_⟩
        · rw [hsz1,hsz];unfold maxLen;omega
        · simp only;rw [hq];omega
        · simp only;rw [hq];exact hnext
        · rw [hS,wrI hb10.1 hb10.2];(try simp -implicitDefEqProofs only [zCd,zCc,zBp,zBr,zBs,zBq,and_self,and_true,true_and]) <;> repeat' (first | exact zBc rfl | exact zB4 | apply And.intro | apply zC1 | apply zA4 | apply zBb | exact zBn | exact zBd | apply zB5 | apply zB6)
      · have e0 : -(k : Int) = (k : Int):=(by have:=hlt;simp at this;omega);simp -implicitDefEqProofs (disch:=omega) only [go_sem,↓reduceIte ,hm,hd,e0,w1,w2];refine ⟨[((48 + k : Nat) : Int)],rfl,?_,by omega,(m.tdiv 10,UInt8.ofNat (48 + k) :: l),?_,⟨hb10,?_⟩,?_⟩
        · rw [hsz1,hsz];unfold maxLen;omega
        · simp only;rw [hq];omega
        · simp only;rw [hq];exact hnext
        · rw [hS,wrI hb10.1 hb10.2];(try simp -implicitDefEqProofs only [zCd,zCc,zBp,zBr,zBs,zBq,and_self,and_true,true_and]) <;> repeat' (first | exact zBc rfl | exact zB4 | apply And.intro | apply zC1 | apply zA4 | apply zBb | exact zBn | exact zBd | apply zB5 | apply zB6)
    · have hd : m.tmod 10 = (k : Int):=by
        obtain ⟨u,rfl⟩ : ∃ u : Nat,m = (u : Int):=⟨m.natAbs,by omega⟩
        have : ((u : Int)).tmod 10 = ((u % 10 : Nat) : Int):=rfl;rw [this,hk];congr 2
      have hk0 : decide ((k : Int) < 0) = false:=(by rw [decide_eq_false_iff_not];omega);simp -implicitDefEqProofs (disch:=omega) only [go_sem,↓reduceIte ,hm,hd,hk0];refine ⟨by omega,?_⟩;simp -implicitDefEqProofs (disch:=omega) only [go_sem,↓reduceIte ,hm,hd,w1,w2];refine ⟨[((48 + k : Nat) : Int)],rfl,?_,by omega,(m.tdiv 10,UInt8.ofNat (48 + k) :: l),?_,⟨hb10,?_⟩,?_⟩
      · rw [hsz1,hsz];unfold maxLen;omega
      · simp only;rw [hq];omega
      · simp only;rw [hq];exact hnext
      · rw [hS,wrI hb10.1 hb10.2];(try simp -implicitDefEqProofs only [zCd,zCc,zBp,zBr,zBs,zBq,and_self,and_true,true_and]) <;> repeat' (first | exact zBc rfl | exact zB4 | apply And.intro | apply zC1 | apply zA4 | apply zBb | exact zBn | exact zBd | apply zB5 | apply zB6)
theorem inl_next {ps : List Piece} {i : Nat} (hi : i < ps.length) : zJr (inlE ((zRu ps).take i)) (.agg #[.int .i64 (ps.getD (ps.length - 1 - i) p0).South,.int .i64 (ps.getD (ps.length - 1 - i) p0).West]) (.int .i64 ((ps.length - 1 - i : Nat) : Int)) = inlE ((zRu ps).take (i + 1)):=by have h1 : i < (zRu ps).length:=(by rw [zLd];exact hi);have h2:=tbG_next (key:=keyI) (val:=valI) h1;rw [revI_get hi] at h2;have h3 : ps.getD (ps.length - 1 - i) p0 = ps[ps.length - 1 - i]'(by omega):=(by rw [List.getD_eq_getElem?_getD,List.getElem?_eq_getElem (by omega)];rfl);rw [h3];exact h2
def code_impl_byInlet : VCode:=(.seq (.ops [
  ⟨(some 2),none,(.asg (.const (.map none)))⟩]) (.seq (.ops [
  ⟨(some 6),none,(.mkm (.flat [1,1]))⟩,
  ⟨(some 3),none,(.alloc [(.map none)])⟩,
  ⟨none,none,(.store 1 (.tmp 3) (.tmp 6))⟩]) (.seq (.seq (.ops [
  ⟨(some 7),none,(.mv (.tmp 0))⟩,
  ⟨(some 8),none,(.callX 114 [(.tmp 7)])⟩]) (.block 0 (.rangeF (.tmp 8) [9,10] (mB 18 261680) (.seq (.ops [
  ⟨(some 4),none,(.asg (.tmp 9))⟩]) (.ops [
  ⟨(some 5),none,(.alloc [(.int .i64 0),(.int .i64 0),(.int .i64 0),(.int .i64 0),(.int .i64 0)])⟩,
  ⟨none,none,(.store 5 (.tmp 5) (.tmp 10))⟩])) (.block 1 (.ops [
  ⟨(some 11),none,(.load 1 false (.tmp 3))⟩,
  ⟨(some 12),none,(.fa 3 (.tmp 5))⟩,
  ⟨(some 13),none,(.load 1 false (.tmp 12))⟩,
  ⟨(some 14),none,(.fa 4 (.tmp 5))⟩,
  ⟨(some 15),none,(.load 1 false (.tmp 14))⟩,
  ⟨(some 16),none,(.build [(.int .i64 0),(.int .i64 0)] [(0,1,(.tmp 13)),(1,1,(.tmp 15))])⟩,
  ⟨(some 17),none,(.mv (.tmp 4))⟩,
  ⟨none,none,(.mupd (.flat [1,1]) (.tmp 11) (.tmp 16) (.tmp 17))⟩]))))) (.seq (.ops [
  ⟨(some 18),none,(.load 1 false (.tmp 3))⟩,
  ⟨(some 2),none,(.asg (.tmp 18))⟩]) .ret))))
theorem zK2 {a0 d : D} (h : code_impl_byInlet.wp (CT Tryz.prog zA6) (zE6 [(.t 2)] d) [a0,.undef,.undef,.undef,.undef,.undef,.undef,.undef,.undef,.undef,.undef,.undef,.undef,.undef,.undef,.undef,.undef,.undef,.undef]) : Contract Tryz.prog zA6 76 [a0] d :=
  zRk (pt:=0) zEn Tryz.func76 (fun us W => by kernel_rfl) (c:=Tryz.f76.body.getD .skip) (ms:=[]) (ms':=[]) (by kernel_rfl) (by kernel_rfl) (by kernel_rfl) (by kernel_rfl) h
set_option maxHeartbeats 1000000 in
theorem zXq (ps : List Piece) (hn : ps.length ≤ 1048576) : Contract Tryz.prog zA6 76 [.sl false 5 (ps.map (Piece.td.d false))] (.mp (.flat [1,1]) (inlE (zRu ps))):=by
  refine zK2 ?_;unfold code_impl_byInlet;simp -implicitDefEqProofs (disch:=omega) only [go_sem,↓reduceIte];refine zAp (zKu ps) (by simp -implicitDefEqProofs (disch:=omega) only [go_sem,↓reduceIte,deep,TD.rows,zAe,zAc,zAf,zAb,zAd,zAa];exact rfl) ?_;simp -implicitDefEqProofs (disch:=omega) only [go_sem,↓reduceIte];refine range_ov (N:=ps.length) (by simp -implicitDefEqProofs (disch:=omega) only [go_sem,↓reduceIte];exact rfl) (by rfl) (fun i => bkP ps i) (zJ2 ps hn) (fun _ _ => rfl) (by simp -implicitDefEqProofs (disch:=omega) only [go_sem,↓reduceIte];exact rfl) (fun i => [(3,.box none [.mp (.flat [1,1]) (inlE ((zRu ps).take i))])]) (fun _ => by simp only [zCb,zBo,List.set_cons_zero,List.set_cons_succ];exact rfl) (by rw [show inlE ((zRu ps).take 0) = [] from rfl];(try simp -implicitDefEqProofs only [zCd,zCc,zBp,zBr,zBs,zBq,and_self,and_true,true_and]) <;> repeat' (first | exact zBc rfl | exact zB4 | apply And.intro | apply zC1 | apply zA4 | apply zBb | exact zBn | exact zBd | apply zB5 | apply zB6)) ?_ ?_
  · intro i hi;have hs:=inl_next hi;simp -implicitDefEqProofs (disch:=omega) only [go_sem,↓reduceIte ,bkP,Piece.td_d,hs];exact ⟨_,zDl,rfl⟩
  · have hN : (zRu ps).take ps.length = zRu ps:=(by rw [← zLd ps,List.take_length]);simp -implicitDefEqProofs (disch:=omega) only [go_sem,↓reduceIte ,hN]
structure dsnB (d : Design) : Prop where
  b : d.Bottom.length ≤ 1048576
  l : d.Left.length ≤ 1048576
  p : d.Pieces.length ≤ 1048576
theorem dsnB_of {d : Design} (h : Design.cnt d ≤ 1048576) : dsnB d:=by have h1 : Design.cnt d = d.Bottom.length + d.Left.length + d.Pieces.length:=rfl;exact ⟨by omega,by omega,by omega⟩
def code_impl_gluesOk : VCode:=(.seq (.ops [
  ⟨(some 2),none,(.asg (.const (.bool false)))⟩]) (.seq (.ops [
  ⟨(some 3),none,(.mv (.tmp 0))⟩,
  ⟨(some 4),none,(.callX 105 [(.tmp 3),(.const (.int .i64 120))])⟩,
  ⟨(some 2),none,(.asg (.tmp 4))⟩]) .ret))
theorem zK1 {a0 d : D} (h : code_impl_gluesOk.wp (CT Tryz.prog zA6) (zE6 [(.t 2)] d) [a0,.undef,.undef,.undef,.undef]) : Contract Tryz.prog zA6 74 [a0] d :=
  zAo (pt:=0) zEn Tryz.func74 (fun us W => by kernel_rfl) (c:=Tryz.f74.body.getD .skip) (ms:=[]) (ms':=[]) (by kernel_rfl) (by kernel_rfl) (by kernel_rfl) h
def code_impl_edgeOk : VCode:=(.seq (.ops [
  ⟨(some 2),none,(.asg (.const (.bool false)))⟩]) (.seq (.ops [
  ⟨(some 3),none,(.mv (.tmp 0))⟩,
  ⟨(some 4),none,(.len (.tmp 3))⟩,
  ⟨(some 5),none,(.callX 73 [(.tmp 4),(.const (.int .i64 1)),(.const (.int .i64 10))])⟩,
  ⟨(some 6),none,(.mv (.tmp 5))⟩,
  ⟨(some 7),(some (6,true)),(.mv (.tmp 0))⟩,
  ⟨(some 8),(some (6,true)),(.callX 74 [(.tmp 7)])⟩,
  ⟨(some 9),none,(.pick (.tmp 6) (.tmp 8) (.const (.bool false)))⟩,
  ⟨(some 2),none,(.asg (.tmp 9))⟩]) .ret))
theorem zMg {a0 d : D} (h : code_impl_edgeOk.wp (CT Tryz.prog zA6) (zE6 [(.t 2)] d) [a0,.undef,.undef,.undef,.undef,.undef,.undef,.undef,.undef,.undef]) : Contract Tryz.prog zA6 71 [a0] d :=
  zAo (pt:=0) zEn Tryz.func71 (fun us W => by kernel_rfl) (c:=Tryz.f71.body.getD .skip) (ms:=[]) (ms':=[]) (by kernel_rfl) (by kernel_rfl) (by kernel_rfl) h
def code_impl_ValidDesign_1 : VCode:=(.seq (.ops [
  ⟨(some 1),none,(.box (.tmp 0))⟩,
  ⟨(some 2),none,(.asg (.const (.bool false)))⟩]) (.seq (.ops [
  ⟨(some 3),none,(.fa 0 (.tmp 1))⟩,
  ⟨(some 4),none,(.load 1 false (.tmp 3))⟩,
  ⟨(some 5),none,(.callX 73 [(.tmp 4),(.const (.int .i64 0)),(.const (.int .i64 5))])⟩,
  ⟨(some 6),none,(.un .not (.tmp 5))⟩,
  ⟨(some 7),none,(.mv (.tmp 6))⟩,
  ⟨(some 8),(some (7,false)),(.fa 1 (.tmp 1))⟩,
  ⟨(some 9),(some (7,false)),(.load 1 false (.tmp 8))⟩,
  ⟨(some 10),(some (7,false)),(.fa 2 (.tmp 1))⟩,
  ⟨(some 11),(some (7,false)),(.load 1 false (.tmp 10))⟩,
  ⟨(some 12),(some (7,false)),(.fa 3 (.tmp 1))⟩,
  ⟨(some 13),(some (7,false)),(.load 1 false (.tmp 12))⟩,
  ⟨(some 14),(some (7,false)),(.fa 4 (.tmp 1))⟩,
  ⟨(some 15),(some (7,false)),(.load 1 false (.tmp 14))⟩,
  ⟨(some 16),(some (7,false)),(.bsl 1 [(.tmp 9),(.tmp 11),(.tmp 13),(.tmp 15)])⟩,
  ⟨(some 17),(some (7,false)),(.callX 74 [(.tmp 16)])⟩,
  ⟨(some 18),(some (7,false)),(.un .not (.tmp 17))⟩,
  ⟨(some 19),none,(.pick (.tmp 7) (.const (.bool true)) (.tmp 18))⟩,
  ⟨(some 2),none,(.asg (.tmp 19))⟩]) .ret))
theorem zGi {a0 d : D} (h : code_impl_ValidDesign_1.wp (CT Tryz.prog zA6) (zE6 [(.t 2)] d) [a0,.undef,.undef,.undef,.undef,.undef,.undef,.undef,.undef,.undef,.undef,.undef,.undef,.undef,.undef,.undef,.undef,.undef,.undef,.undef]) : Contract Tryz.prog zA6 72 [a0] d :=
  zAo (pt:=0) zEn Tryz.func72 (fun us W => by kernel_rfl) (c:=Tryz.f72.body.getD .skip) (ms:=[]) (ms':=[]) (by kernel_rfl) (by kernel_rfl) (by kernel_rfl) h
def code_impl_ValidDesign : VCode:=(.seq (.ops [
  ⟨(some 1),none,(.box (.tmp 0))⟩,
  ⟨(some 2),none,(.asg (.const (.bool false)))⟩]) (.seq (.seq (.ops [
  ⟨(some 4),none,(.fa 0 (.tmp 1))⟩,
  ⟨(some 5),none,(.load 1 false (.tmp 4))⟩,
  ⟨(some 6),none,(.callX 71 [(.tmp 5)])⟩,
  ⟨(some 7),none,(.un .not (.tmp 6))⟩,
  ⟨(some 8),none,(.mv (.tmp 7))⟩,
  ⟨(some 9),(some (8,false)),(.fa 1 (.tmp 1))⟩,
  ⟨(some 10),(some (8,false)),(.load 1 false (.tmp 9))⟩,
  ⟨(some 11),(some (8,false)),(.callX 71 [(.tmp 10)])⟩,
  ⟨(some 12),(some (8,false)),(.un .not (.tmp 11))⟩,
  ⟨(some 13),none,(.pick (.tmp 8) (.const (.bool true)) (.tmp 12))⟩,
  ⟨(some 14),none,(.mv (.tmp 13))⟩,
  ⟨(some 15),(some (14,false)),(.fa 2 (.tmp 1))⟩,
  ⟨(some 16),(some (14,false)),(.load 1 false (.tmp 15))⟩,
  ⟨(some 17),(some (14,false)),(.len (.tmp 16))⟩,
  ⟨(some 18),(some (14,false)),(.bin .gtr (.tmp 17) (.const (.int .i64 100)))⟩,
  ⟨(some 19),none,(.pick (.tmp 14) (.const (.bool true)) (.tmp 18))⟩]) (.cond (.tmp 19) (.seq (.ops [
  ⟨(some 2),none,(.asg (.const (.bool false)))⟩]) .ret) .skip)) (.seq (.ops [
  ⟨(some 3),none,(.asg (.func 72))⟩]) (.seq (.draw (mB 33 8588886016) [] [⟨0,(mB 33 8588886016),[],⟨(some 20),none,(.fa 2 (.tmp 1))⟩⟩,⟨1,(mB 33 8587837440),[],⟨(some 21),none,(.load 1 false (.tmp 20))⟩⟩,⟨2,(mB 33 8588886016),[],⟨(some 22),none,(.mv (.tmp 3))⟩⟩,⟨3,(mB 33 8581545984),[],⟨(some 23),none,(.call 75 [(.tmp 21),(.tmp 22)])⟩⟩,⟨4,(mB 33 8573157376),[],⟨(some 24),none,(.un .not (.tmp 23))⟩⟩,⟨5,(mB 33 8556380160),[],⟨(some 25),none,(.mv (.tmp 24))⟩⟩,⟨6,(mB 33 8522825728),[],⟨(some 26),(some (25,true)),(.fa 2 (.tmp 1))⟩⟩,⟨7,(mB 33 8455716864),[],⟨(some 27),(some (25,true)),(.load 1 false (.tmp 26))⟩⟩,⟨8,(mB 33 8321499136),[],⟨(some 28),(some (25,true)),(.call 76 [(.tmp 27)])⟩⟩,⟨9,(mB 33 8053063680),[],⟨(some 29),(some (25,true)),(.mlen (.tmp 28))⟩⟩,⟨10,(mB 33 8522825728),[],⟨(some 30),(some (25,true)),(.fa 2 (.tmp 1))⟩⟩,⟨11,(mB 33 7449083904),[],⟨(some 31),(some (25,true)),(.load 1 false (.tmp 30))⟩⟩,⟨12,(mB 33 5301600256),[],⟨(some 32),(some (25,true)),(.len (.tmp 31))⟩⟩] [⟨(some 33),(some (25,true)),(.bin .eql (.tmp 29) (.tmp 32))⟩,⟨(some 34),none,(.pick (.tmp 25) (.tmp 33) (.const (.bool false)))⟩,⟨(some 2),none,(.asg (.tmp 34))⟩]) .ret))))
theorem zHi {a0 d : D} (h : code_impl_ValidDesign.wp (CT Tryz.prog zA6) (zE6 [(.t 2)] d) [a0,.undef,.undef,.undef,.undef,.undef,.undef,.undef,.undef,.undef,.undef,.undef,.undef,.undef,.undef,.undef,.undef,.undef,.undef,.undef,.undef,.undef,.undef,.undef,.undef,.undef,.undef,.undef,.undef,.undef,.undef,.undef,.undef,.undef,.undef]) : Contract Tryz.prog zA6 29 [a0] d :=
  zAo (pt:=0) zEn Tryz.func29 (fun us W => by kernel_rfl) (c:=Tryz.f29.body.getD .skip) (ms:=[]) (ms':=[]) (by kernel_rfl) (by kernel_rfl) (by kernel_rfl) h
theorem zPz (xs : List Int) (hn : xs.length ≤ 1048576) : Contract Tryz.prog zA6 74 [.sl false 1 (xs.map rI)] (.v (.bool (xs.all (inR 0 119)))):=by refine zK1 ?_;unfold code_impl_gluesOk;simp -implicitDefEqProofs (disch:=omega) only [go_sem,↓reduceIte];refine zAp (v_below xs 120 (by omega) (by omega) hn) (by simp -implicitDefEqProofs (disch:=omega) only [go_sem,↓reduceIte,deep,TD.rows,zAe,zAc,zAf,zAb,zAd,zAa,Int.reduceSub];exact rfl) ?_;simp -implicitDefEqProofs (disch:=omega) only [go_sem,↓reduceIte ,Int.reduceSub]
theorem zEg (xs : List Int) (hn : xs.length ≤ 1048576) : Contract Tryz.prog zA6 71 [.sl false 1 (xs.map rI)] (.v (.bool (zEv xs))):=by
  refine zMg ?_;unfold code_impl_edgeOk zEv;simp -implicitDefEqProofs (disch:=omega) only [go_sem,↓reduceIte ,List.length_map];cases h : inR 1 10 xs.length with
  | false => refine zAp (zE7 _ _ _) (by simp -implicitDefEqProofs (disch:=omega) only [go_sem,↓reduceIte,deep,TD.rows,zAe,zAc,zAf,zAb,zAd,zAa,h];exact rfl) ?_;simp -implicitDefEqProofs (disch:=omega) only [go_sem,↓reduceIte ,h]
  | true => refine zAp (zE7 _ _ _) (by simp -implicitDefEqProofs (disch:=omega) only [go_sem,↓reduceIte,deep,TD.rows,zAe,zAc,zAf,zAb,zAd,zAa,h];exact rfl) ?_;simp -implicitDefEqProofs (disch:=omega) only [go_sem,↓reduceIte ,h];refine zAp (zPz xs hn) (by simp -implicitDefEqProofs (disch:=omega) only [go_sem,↓reduceIte,deep,TD.rows,zAe,zAc,zAf,zAb,zAd,zAa];exact rfl) ?_;simp -implicitDefEqProofs (disch:=omega) only [go_sem,↓reduceIte]
theorem zNo (p : Piece) : Contract Tryz.prog zA6 72 [.agg (Piece.td.d false p)] (.v (.bool (!zZj p))):=by
  rw [Piece.td_d];refine zGi ?_;unfold code_impl_ValidDesign_1 zZj;simp -implicitDefEqProofs (disch:=omega) only [go_sem,↓reduceIte];cases h : inR 0 5 p.Color with
  | false => refine zAp (zE7 _ _ _) (by simp -implicitDefEqProofs (disch:=omega) only [go_sem,↓reduceIte,deep,TD.rows,zAe,zAc,zAf,zAb,zAd,zAa,h];exact rfl) ?_;simp -implicitDefEqProofs (disch:=omega) only [go_sem,↓reduceIte ,h]
  | true => refine zAp (zE7 _ _ _) (by simp -implicitDefEqProofs (disch:=omega) only [go_sem,↓reduceIte,deep,TD.rows,zAe,zAc,zAf,zAb,zAd,zAa,h];exact rfl) ?_;simp -implicitDefEqProofs (disch:=omega) only [go_sem,↓reduceIte ,h];refine zAp (zPz [p.North,p.East,p.South,p.West] (by simp)) (by simp -implicitDefEqProofs (disch:=omega) only [go_sem,↓reduceIte,deep,TD.rows,zAe,zAc,zAf,zAb,zAd,zAa];exact rfl) ?_;simp -implicitDefEqProofs (disch:=omega) only [go_sem,↓reduceIte]
set_option maxHeartbeats 1000000 in
theorem zOn (d : Design) (hd : dsnB d) : Contract Tryz.prog zA6 29 [.agg (Design.td.d false d)] (.v (.bool (zC7 d))):=by
  have hb:=hd.b;have hl:=hd.l;have hp:=hd.p;rw [Design.td_d];refine zHi ?_;unfold code_impl_ValidDesign zC7;simp -implicitDefEqProofs (disch:=omega) only [go_sem,↓reduceIte];cases h1 : zEv d.Bottom with
  | false => refine zAp (zEg d.Bottom hb) (by simp -implicitDefEqProofs (disch:=omega) only [go_sem,↓reduceIte,deep,TD.rows,zAe,zAc,zAf,zAb,zAd,zAa,h1];exact rfl) ?_;simp -implicitDefEqProofs (disch:=omega) only [go_sem,↓reduceIte ,h1]
  | true =>
  cases h2 : zEv d.Left with
  | false => refine zAp (zEg d.Bottom hb) (by simp -implicitDefEqProofs (disch:=omega) only [go_sem,↓reduceIte,deep,TD.rows,zAe,zAc,zAf,zAb,zAd,zAa,h1];exact rfl) ?_;simp -implicitDefEqProofs (disch:=omega) only [go_sem,↓reduceIte ,h1];refine zAp (zEg d.Left hl) (by simp -implicitDefEqProofs (disch:=omega) only [go_sem,↓reduceIte,deep,TD.rows,zAe,zAc,zAf,zAb,zAd,zAa,h2];exact rfl) ?_;simp -implicitDefEqProofs (disch:=omega) only [go_sem,↓reduceIte ,h2]
  | true =>
  by_cases h3 : d.Pieces.length ≤ 100
  · have h3' : decide ((100 : Int) < (d.Pieces.length : Int)) = false:=(by rw [decide_eq_false_iff_not];omega);rw [decide_eq_true h3];cases h4 : d.Pieces.all zZj with
    | false => refine zAp (zEg d.Bottom hb) (by simp -implicitDefEqProofs (disch:=omega) only [go_sem,↓reduceIte,deep,TD.rows,zAe,zAc,zAf,zAb,zAd,zAa,h1];exact rfl) ?_;simp -implicitDefEqProofs (disch:=omega) only [go_sem,↓reduceIte ,h1];refine zAp (zEg d.Left hl) (by simp -implicitDefEqProofs (disch:=omega) only [go_sem,↓reduceIte,deep,TD.rows,zAe,zAc,zAf,zAb,zAd,zAa,h2,List.length_map,h3'];exact rfl) ?_;simp -implicitDefEqProofs (disch:=omega) only [go_sem,↓reduceIte ,h2,List.length_map,h3'];refine zBa (zEc _ [] ⟨rfl,fun _ => rfl,fun _ => rfl,fun _ => rfl⟩ d.Pieces (fun p => !zZj p) (fun x _ => zNo x) (by omega)) (by simp -implicitDefEqProofs (disch:=omega) only [go_sem,↓reduceIte,deep,TD.rows,zAe,zAc,zAf,zAb,zAd,zAa,zKa,Bool.not_not,h4];exact rfl) ?_;simp -implicitDefEqProofs (disch:=omega) only [go_sem,↓reduceIte ,zKa,Bool.not_not,h4]
    | true => refine zAp (zEg d.Bottom hb) (by simp -implicitDefEqProofs (disch:=omega) only [go_sem,↓reduceIte,deep,TD.rows,zAe,zAc,zAf,zAb,zAd,zAa,h1];exact rfl) ?_;simp -implicitDefEqProofs (disch:=omega) only [go_sem,↓reduceIte ,h1];refine zAp (zEg d.Left hl) (by simp -implicitDefEqProofs (disch:=omega) only [go_sem,↓reduceIte,deep,TD.rows,zAe,zAc,zAf,zAb,zAd,zAa,h2,List.length_map,h3'];exact rfl) ?_;simp -implicitDefEqProofs (disch:=omega) only [go_sem,↓reduceIte ,h2,List.length_map,h3'];refine zBa (zEc _ [] ⟨rfl,fun _ => rfl,fun _ => rfl,fun _ => rfl⟩ d.Pieces (fun p => !zZj p) (fun x _ => zNo x) (by omega)) (by simp -implicitDefEqProofs (disch:=omega) only [go_sem,↓reduceIte,deep,TD.rows,zAe,zAc,zAf,zAb,zAd,zAa,zKa,Bool.not_not,h4];exact rfl) ?_;simp -implicitDefEqProofs (disch:=omega) only [go_sem,↓reduceIte ,zKa,Bool.not_not,h4];refine zBa (zXq d.Pieces hp) (by simp -implicitDefEqProofs (disch:=omega) only [go_sem,↓reduceIte,deep,TD.rows,zAe,zAc,zAf,zAb,zAd,zAa,List.length_map,inl_len];exact rfl) ?_;simp -implicitDefEqProofs (disch:=omega) only [go_sem,↓reduceIte ,List.length_map,inl_len]
  · have h3' : decide ((100 : Int) < (d.Pieces.length : Int)) = true:=(by rw [decide_eq_true_eq];omega);rw [decide_eq_false h3];refine zAp (zEg d.Bottom hb) (by simp -implicitDefEqProofs (disch:=omega) only [go_sem,↓reduceIte,deep,TD.rows,zAe,zAc,zAf,zAb,zAd,zAa,h1];exact rfl) ?_;simp -implicitDefEqProofs (disch:=omega) only [go_sem,↓reduceIte ,h1];refine zAp (zEg d.Left hl) (by simp -implicitDefEqProofs (disch:=omega) only [go_sem,↓reduceIte,deep,TD.rows,zAe,zAc,zAf,zAb,zAd,zAa,h2,List.length_map,h3'];exact rfl) ?_;simp -implicitDefEqProofs (disch:=omega) only [go_sem,↓reduceIte ,h2,List.length_map,h3']
theorem all_no {α : Type} {xs : List α} {p : α → Bool} {j : Nat} (hj : j < xs.length) (h : p xs[j] = false) : xs.all p = false:=by rw [List.all_eq_false];exact ⟨xs[j],List.getElem_mem hj,by simp [h]⟩
theorem zR3 {α : Type} {xs : List α} {i : Nat} (hi : i < xs.length) : xs.take (i + 1) = xs.take i ++ [xs[i]]:=List.take_succ_eq_append_getElem hi
def code_spec_l24Numbers : VCode:=(.seq (.ops [
  ⟨(some 2),none,(.asg (.const (.bool false)))⟩]) (.seq (.seq (.ops [
  ⟨(some 4),none,(.mv (.tmp 0))⟩,
  ⟨(some 5),none,(.len (.tmp 4))⟩,
  ⟨(some 6),none,(.callX 67 [(.tmp 5),(.const (.int .i64 1)),(.const (.int .i64 10))])⟩,
  ⟨(some 7),none,(.un .not (.tmp 6))⟩]) (.cond (.tmp 7) (.seq (.ops [
  ⟨(some 2),none,(.asg (.const (.bool false)))⟩]) .ret) .skip)) (.seq (.seq (.ops [
  ⟨(some 3),none,(.asg (.const (.int .i64 0)))⟩]) (.block 0 (.loop (mB 20 1048566) (.seq (.seq (.ops [
  ⟨(some 8),none,(.mv (.tmp 3))⟩,
  ⟨(some 9),none,(.mv (.tmp 0))⟩,
  ⟨(some 10),none,(.len (.tmp 9))⟩,
  ⟨(some 11),none,(.bin .lss (.tmp 8) (.tmp 10))⟩]) (.cond (.tmp 11) .skip (.exit 0))) (.seq (.block 1 (.seq (.ops [
  ⟨(some 14),none,(.mv (.tmp 0))⟩,
  ⟨(some 15),none,(.mv (.tmp 3))⟩,
  ⟨(some 16),none,(.ia 1 (.tmp 14) (.tmp 15))⟩,
  ⟨(some 17),none,(.load 1 false (.tmp 16))⟩,
  ⟨(some 18),none,(.callX 67 [(.tmp 17),(.const (.int .i64 0)),(.const (.int .i64 119))])⟩,
  ⟨(some 19),none,(.un .not (.tmp 18))⟩]) (.cond (.tmp 19) (.seq (.ops [
  ⟨(some 2),none,(.asg (.const (.bool false)))⟩]) .ret) .skip))) (.ops [
  ⟨(some 12),none,(.mv (.tmp 3))⟩,
  ⟨(some 13),none,(.bin .add (.tmp 12) (.const (.int .i64 1)))⟩,
  ⟨(some 3),none,(.asg (.tmp 13))⟩])))))) (.seq (.ops [
  ⟨(some 2),none,(.asg (.const (.bool true)))⟩]) .ret))))
theorem zHt {a0 d : D} (h : code_spec_l24Numbers.wp (CT Tryz.prog zA6) (zE6 [(.t 2)] d) [a0,.undef,.undef,.undef,.undef,.undef,.undef,.undef,.undef,.undef,.undef,.undef,.undef,.undef,.undef,.undef,.undef,.undef,.undef,.undef]) : Contract Tryz.prog zA6 60 [a0] d :=
  zAo (pt:=0) zEn Tryz.func60 (fun us W => by kernel_rfl) (c:=Tryz.f60.body.getD .skip) (ms:=[(mB 20 1048566)]) (ms':=[]) (by kernel_rfl) (by kernel_rfl) (by kernel_rfl) h
def code_spec_l24Piece : VCode:=(.seq (.ops [
  ⟨(some 2),none,(.asg (.const (.bool false)))⟩]) (.seq (.ops [
  ⟨(some 3),none,(.mv (.tmp 0))⟩,
  ⟨(some 4),none,(.nilc (.tmp 3))⟩,
  ⟨(some 5),none,(.fa 0 (.tmp 4))⟩,
  ⟨(some 6),none,(.load 1 false (.tmp 5))⟩,
  ⟨(some 7),none,(.callX 67 [(.tmp 6),(.const (.int .i64 0)),(.const (.int .i64 5))])⟩,
  ⟨(some 8),none,(.mv (.tmp 7))⟩,
  ⟨(some 9),(some (8,true)),(.mv (.tmp 0))⟩,
  ⟨(some 10),(some (8,true)),(.nilc (.tmp 9))⟩,
  ⟨(some 11),(some (8,true)),(.fa 1 (.tmp 10))⟩,
  ⟨(some 12),(some (8,true)),(.load 1 false (.tmp 11))⟩,
  ⟨(some 13),(some (8,true)),(.callX 67 [(.tmp 12),(.const (.int .i64 0)),(.const (.int .i64 119))])⟩,
  ⟨(some 14),none,(.pick (.tmp 8) (.tmp 13) (.const (.bool false)))⟩,
  ⟨(some 15),none,(.mv (.tmp 14))⟩,
  ⟨(some 16),(some (15,true)),(.mv (.tmp 0))⟩,
  ⟨(some 17),(some (15,true)),(.nilc (.tmp 16))⟩,
  ⟨(some 18),(some (15,true)),(.fa 2 (.tmp 17))⟩,
  ⟨(some 19),(some (15,true)),(.load 1 false (.tmp 18))⟩,
  ⟨(some 20),(some (15,true)),(.callX 67 [(.tmp 19),(.const (.int .i64 0)),(.const (.int .i64 119))])⟩,
  ⟨(some 21),none,(.pick (.tmp 15) (.tmp 20) (.const (.bool false)))⟩,
  ⟨(some 22),none,(.mv (.tmp 21))⟩,
  ⟨(some 23),(some (22,true)),(.mv (.tmp 0))⟩,
  ⟨(some 24),(some (22,true)),(.nilc (.tmp 23))⟩,
  ⟨(some 25),(some (22,true)),(.fa 3 (.tmp 24))⟩,
  ⟨(some 26),(some (22,true)),(.load 1 false (.tmp 25))⟩,
  ⟨(some 27),(some (22,true)),(.callX 67 [(.tmp 26),(.const (.int .i64 0)),(.const (.int .i64 119))])⟩,
  ⟨(some 28),none,(.pick (.tmp 22) (.tmp 27) (.const (.bool false)))⟩,
  ⟨(some 29),none,(.mv (.tmp 28))⟩,
  ⟨(some 30),(some (29,true)),(.mv (.tmp 0))⟩,
  ⟨(some 31),(some (29,true)),(.nilc (.tmp 30))⟩,
  ⟨(some 32),(some (29,true)),(.fa 4 (.tmp 31))⟩,
  ⟨(some 33),(some (29,true)),(.load 1 false (.tmp 32))⟩,
  ⟨(some 34),(some (29,true)),(.callX 67 [(.tmp 33),(.const (.int .i64 0)),(.const (.int .i64 119))])⟩,
  ⟨(some 35),none,(.pick (.tmp 29) (.tmp 34) (.const (.bool false)))⟩,
  ⟨(some 2),none,(.asg (.tmp 35))⟩]) .ret))
theorem zJt {a0 d : D} (h : code_spec_l24Piece.wp (CT Tryz.prog zA6) (zE6 [(.t 2)] d) [a0,.undef,.undef,.undef,.undef,.undef,.undef,.undef,.undef,.undef,.undef,.undef,.undef,.undef,.undef,.undef,.undef,.undef,.undef,.undef,.undef,.undef,.undef,.undef,.undef,.undef,.undef,.undef,.undef,.undef,.undef,.undef,.undef,.undef,.undef,.undef]) : Contract Tryz.prog zA6 61 [a0] d :=
  zAo (pt:=0) zEn Tryz.func61 (fun us W => by kernel_rfl) (c:=Tryz.f61.body.getD .skip) (ms:=[]) (ms':=[]) (by kernel_rfl) (by kernel_rfl) (by kernel_rfl) h
def code_spec_l24Design : VCode:=(.seq (.ops [
  ⟨(some 2),none,(.asg (.const (.bool false)))⟩]) (.seq (.seq (.ops [
  ⟨(some 5),none,(.mv (.tmp 0))⟩,
  ⟨(some 6),none,(.nilc (.tmp 5))⟩,
  ⟨(some 7),none,(.fa 0 (.tmp 6))⟩,
  ⟨(some 8),none,(.load 1 false (.tmp 7))⟩,
  ⟨(some 9),none,(.callX 60 [(.tmp 8)])⟩,
  ⟨(some 10),none,(.un .not (.tmp 9))⟩,
  ⟨(some 11),none,(.mv (.tmp 10))⟩,
  ⟨(some 12),(some (11,false)),(.mv (.tmp 0))⟩,
  ⟨(some 13),(some (11,false)),(.nilc (.tmp 12))⟩,
  ⟨(some 14),(some (11,false)),(.fa 1 (.tmp 13))⟩,
  ⟨(some 15),(some (11,false)),(.load 1 false (.tmp 14))⟩,
  ⟨(some 16),(some (11,false)),(.callX 60 [(.tmp 15)])⟩,
  ⟨(some 17),(some (11,false)),(.un .not (.tmp 16))⟩,
  ⟨(some 18),none,(.pick (.tmp 11) (.const (.bool true)) (.tmp 17))⟩,
  ⟨(some 19),none,(.mv (.tmp 18))⟩,
  ⟨(some 20),(some (19,false)),(.mv (.tmp 0))⟩,
  ⟨(some 21),(some (19,false)),(.nilc (.tmp 20))⟩,
  ⟨(some 22),(some (19,false)),(.fa 2 (.tmp 21))⟩,
  ⟨(some 23),(some (19,false)),(.load 1 false (.tmp 22))⟩,
  ⟨(some 24),(some (19,false)),(.len (.tmp 23))⟩,
  ⟨(some 25),(some (19,false)),(.bin .gtr (.tmp 24) (.const (.int .i64 100)))⟩,
  ⟨(some 26),none,(.pick (.tmp 19) (.const (.bool true)) (.tmp 25))⟩]) (.cond (.tmp 26) (.seq (.ops [
  ⟨(some 2),none,(.asg (.const (.bool false)))⟩]) .ret) .skip)) (.seq (.seq (.ops [
  ⟨(some 3),none,(.asg (.const (.int .i64 0)))⟩]) (.block 0 (.loop (mB 85 38685626227668133590597622) (.seq (.seq (.ops [
  ⟨(some 27),none,(.mv (.tmp 3))⟩,
  ⟨(some 28),none,(.mv (.tmp 0))⟩,
  ⟨(some 29),none,(.nilc (.tmp 28))⟩,
  ⟨(some 30),none,(.fa 2 (.tmp 29))⟩,
  ⟨(some 31),none,(.load 1 false (.tmp 30))⟩,
  ⟨(some 32),none,(.len (.tmp 31))⟩,
  ⟨(some 33),none,(.bin .lss (.tmp 27) (.tmp 32))⟩]) (.cond (.tmp 33) .skip (.exit 0))) (.seq (.block 1 (.seq (.seq (.ops [
  ⟨(some 36),none,(.mv (.tmp 0))⟩,
  ⟨(some 37),none,(.nilc (.tmp 36))⟩,
  ⟨(some 38),none,(.fa 2 (.tmp 37))⟩,
  ⟨(some 39),none,(.load 1 false (.tmp 38))⟩,
  ⟨(some 40),none,(.mv (.tmp 3))⟩,
  ⟨(some 41),none,(.ia 5 (.tmp 39) (.tmp 40))⟩,
  ⟨(some 42),none,(.callX 61 [(.tmp 41)])⟩,
  ⟨(some 43),none,(.un .not (.tmp 42))⟩]) (.cond (.tmp 43) (.seq (.ops [
  ⟨(some 2),none,(.asg (.const (.bool false)))⟩]) .ret) .skip)) (.seq (.ops [
  ⟨(some 4),none,(.asg (.const (.int .i64 0)))⟩]) (.block 2 (.loop (mB 85 38685626227668133590597606) (.seq (.seq (.ops [
  ⟨(some 44),none,(.mv (.tmp 4))⟩,
  ⟨(some 45),none,(.mv (.tmp 3))⟩,
  ⟨(some 46),none,(.bin .lss (.tmp 44) (.tmp 45))⟩]) (.cond (.tmp 46) .skip (.exit 2))) (.seq (.block 3 (.seq (.draw (mB 83 9671406556354083444228096) [] [⟨0,(mB 83 9671406556354083444228096),[],⟨(some 49),none,(.mv (.tmp 0))⟩⟩,⟨1,(mB 83 9671406555791133490806784),[],⟨(some 50),none,(.nilc (.tmp 49))⟩⟩,⟨2,(mB 83 9671406554665233583964160),[],⟨(some 51),none,(.fa 2 (.tmp 50))⟩⟩,⟨3,(mB 83 9671406552413433770278912),[],⟨(some 52),none,(.load 1 false (.tmp 51))⟩⟩,⟨4,(mB 83 9671406556354083444228096),[],⟨(some 53),none,(.mv (.tmp 4))⟩⟩,⟨5,(mB 83 9671406538902634888167424),[],⟨(some 54),none,(.ia 5 (.tmp 52) (.tmp 53))⟩⟩,⟨6,(mB 83 9671406520888236378685440),[],⟨(some 55),none,(.fa 3 (.tmp 54))⟩⟩,⟨7,(mB 83 9671406484859439359721472),[],⟨(some 56),none,(.load 1 false (.tmp 55))⟩⟩,⟨8,(mB 83 9671406556354083444228096),[],⟨(some 57),none,(.mv (.tmp 0))⟩⟩,⟨9,(mB 83 9671406412238895368372224),[],⟨(some 58),none,(.nilc (.tmp 57))⟩⟩,⟨10,(mB 83 9671406124008519216660480),[],⟨(some 59),none,(.fa 2 (.tmp 58))⟩⟩,⟨11,(mB 83 9671405547547766913236992),[],⟨(some 60),none,(.load 1 false (.tmp 59))⟩⟩,⟨12,(mB 83 9671406556354083444228096),[],⟨(some 61),none,(.mv (.tmp 3))⟩⟩,⟨13,(mB 83 9671402088783253092696064),[],⟨(some 62),none,(.ia 5 (.tmp 60) (.tmp 61))⟩⟩,⟨14,(mB 83 9671397477097234665308160),[],⟨(some 63),none,(.fa 3 (.tmp 62))⟩⟩,⟨15,(mB 83 9671388253725197810532352),[],⟨(some 64),none,(.load 1 false (.tmp 63))⟩⟩,⟨16,(mB 83 9671369663428885978546176),[],⟨(some 65),none,(.bin .eql (.tmp 56) (.tmp 64))⟩⟩,⟨17,(mB 83 9671332769940738559442944),[],⟨(some 66),none,(.mv (.tmp 65))⟩⟩,⟨18,(mB 83 9671258982964443721236480),[],⟨(some 67),(some (66,true)),(.mv (.tmp 0))⟩⟩,⟨19,(mB 83 9671111409011854044823552),[],⟨(some 68),(some (66,true)),(.nilc (.tmp 67))⟩⟩,⟨20,(mB 83 9670816261106674691997696),[],⟨(some 69),(some (66,true)),(.fa 2 (.tmp 68))⟩⟩,⟨21,(mB 83 9670225965296315986345984),[],⟨(some 70),(some (66,true)),(.load 1 false (.tmp 69))⟩⟩,⟨22,(mB 83 9671258982964443721236480),[],⟨(some 71),(some (66,true)),(.mv (.tmp 4))⟩⟩,⟨23,(mB 83 9666684190434163752435712),[],⟨(some 72),(some (66,true)),(.ia 5 (.tmp 70) (.tmp 71))⟩⟩,⟨24,(mB 83 9661961823951294107222016),[],⟨(some 73),(some (66,true)),(.fa 4 (.tmp 72))⟩⟩,⟨25,(mB 83 9652517090985554816794624),[],⟨(some 74),(some (66,true)),(.load 1 false (.tmp 73))⟩⟩,⟨26,(mB 83 9671258982964443721236480),[],⟨(some 75),(some (66,true)),(.mv (.tmp 0))⟩⟩,⟨27,(mB 83 9633480051101486559526912),[],⟨(some 76),(some (66,true)),(.nilc (.tmp 75))⟩⟩,⟨28,(mB 83 9557922187375572236107776),[],⟨(some 77),(some (66,true)),(.fa 2 (.tmp 76))⟩⟩,⟨29,(mB 83 9406806459923743589269504),[],⟨(some 78),(some (66,true)),(.load 1 false (.tmp 77))⟩⟩,⟨30,(mB 83 9671258982964443721236480),[],⟨(some 79),(some (66,true)),(.mv (.tmp 3))⟩⟩,⟨31,(mB 83 8500112095212771708239872),[],⟨(some 80),(some (66,true)),(.ia 5 (.tmp 78) (.tmp 79))⟩⟩,⟨32,(mB 83 7291186275598142533533696),[],⟨(some 81),(some (66,true)),(.fa 4 (.tmp 80))⟩⟩,⟨33,(mB 83 4873334636368884184121344),[],⟨(some 82),(some (66,true)),(.load 1 false (.tmp 81))⟩⟩] [⟨(some 83),(some (66,true)),(.bin .eql (.tmp 74) (.tmp 82))⟩,⟨(some 84),none,(.pick (.tmp 66) (.tmp 83) (.const (.bool false)))⟩]) (.cond (.tmp 84) (.seq (.ops [
  ⟨(some 2),none,(.asg (.const (.bool false)))⟩]) .ret) .skip))) (.ops [
  ⟨(some 47),none,(.mv (.tmp 4))⟩,
  ⟨(some 48),none,(.bin .add (.tmp 47) (.const (.int .i64 1)))⟩,
  ⟨(some 4),none,(.asg (.tmp 48))⟩])))))))) (.ops [
  ⟨(some 34),none,(.mv (.tmp 3))⟩,
  ⟨(some 35),none,(.bin .add (.tmp 34) (.const (.int .i64 1)))⟩,
  ⟨(some 3),none,(.asg (.tmp 35))⟩])))))) (.seq (.ops [
  ⟨(some 2),none,(.asg (.const (.bool true)))⟩]) .ret))))
theorem zIr {a0 d : D} (h : code_spec_l24Design.wp (CT Tryz.prog zA6) (zE6 [(.t 2)] d) [a0,.undef,.undef,.undef,.undef,.undef,.undef,.undef,.undef,.undef,.undef,.undef,.undef,.undef,.undef,.undef,.undef,.undef,.undef,.undef,.undef,.undef,.undef,.undef,.undef,.undef,.undef,.undef,.undef,.undef,.undef,.undef,.undef,.undef,.undef,.undef,.undef,.undef,.undef,.undef,.undef,.undef,.undef,.undef,.undef,.undef,.undef,.undef,.undef,.undef,.undef,.undef,.undef,.undef,.undef,.undef,.undef,.undef,.undef,.undef,.undef,.undef,.undef,.undef,.undef,.undef,.undef,.undef,.undef,.undef,.undef,.undef,.undef,.undef,.undef,.undef,.undef,.undef,.undef,.undef,.undef,.undef,.undef,.undef,.undef]) : Contract Tryz.prog zA6 25 [a0] d :=
  zAo (pt:=0) zEn Tryz.func25 (fun us W => by kernel_rfl) (c:=Tryz.f25.body.getD .skip) (ms:=[(mB 85 38685626227668133590597622),(mB 85 38685626227668133590597606)]) (ms':=[]) (by kernel_rfl) (by kernel_rfl) (by kernel_rfl) h
theorem zFa (xs : List Int) (hn : xs.length ≤ 1048576) : Contract Tryz.prog zA6 60 [.sl false 1 (xs.map rI)] (.v (.bool (zEv xs))):=by
  refine zHt ?_;unfold code_spec_l24Numbers;simp -implicitDefEqProofs (disch:=omega) only [go_sem,↓reduceIte ,List.length_map];cases h : inR 1 10 xs.length with
  | false => have hno : zEv xs = false:=(by unfold zEv;rw [h];rfl);refine zAp (zDd _ _ _) (by simp -implicitDefEqProofs (disch:=omega) only [go_sem,↓reduceIte,deep,TD.rows,zAe,zAc,zAf,zAb,zAd,zAa,h,hno];exact rfl) ?_;simp -implicitDefEqProofs (disch:=omega) only [go_sem,↓reduceIte ,h,hno]
  | true =>
    have hyes : zEv xs = xs.all (inR 0 119):=(by unfold zEv;rw [h];rfl);refine zAp (zDd _ _ _) (by simp -implicitDefEqProofs (disch:=omega) only [go_sem,↓reduceIte,deep,TD.rows,zAe,zAc,zAf,zAb,zAd,zAa,h];exact rfl) ?_;simp -implicitDefEqProofs (disch:=omega) only [go_sem,↓reduceIte ,h];refine zCh (by simp -implicitDefEqProofs (disch:=omega) only [go_sem,↓reduceIte];exact rfl) (fun i : Nat => [(3,.v (.int .i64 (i : Nat)))]) (fun _ => by simp only [zCb,zBo,List.set_cons_zero,List.set_cons_succ];exact rfl) (fun i : Nat => i ≤ xs.length ∧ (xs.take i).all (inR 0 119) = true) (fun i : Nat => xs.length - i) (0) (zDl) (?_) ?_
    · exact ⟨Nat.zero_le _,rfl⟩
    rintro i ⟨hi,hok⟩;simp -implicitDefEqProofs (disch:=omega) only [go_sem,↓reduceIte ,List.length_map,Int.toNat_natCast,Int.ofNat_lt,Int.natCast_nonneg,List.getElem?_map,Option.map_some];refine zAk ?_ ?_ <;> intro hlt
    · have hlt : i < xs.length:=(by simpa using hlt);have e1:=List.getElem?_eq_getElem hlt;cases hx : inR 0 119 xs[i] with
      | false => have hno : zEv xs = false:=(by rw [hyes];exact all_no hlt hx);simp -implicitDefEqProofs (disch:=omega) only [go_sem,↓reduceIte ,List.length_map,Int.toNat_natCast,Int.ofNat_lt,Int.natCast_nonneg,List.getElem?_map,Option.map_some,hlt,e1,rI];refine zAp (zDd _ _ _) (by simp -implicitDefEqProofs (disch:=omega) only [go_sem,↓reduceIte,deep,TD.rows,zAe,zAc,zAf,zAb,zAd,zAa,hx,hno];exact rfl) ?_;simp -implicitDefEqProofs (disch:=omega) only [go_sem,↓reduceIte ,hx,hno]
      | true => have hnx : (xs.take (i + 1)).all (inR 0 119) = true:=(by rw [zR3 hlt,List.all_append,hok,List.all_cons,hx];rfl);simp -implicitDefEqProofs (disch:=omega) only [go_sem,↓reduceIte ,List.length_map,Int.toNat_natCast,Int.ofNat_lt,Int.natCast_nonneg,List.getElem?_map,Option.map_some,hlt,e1,rI];refine zAp (zDd _ _ _) (by simp -implicitDefEqProofs (disch:=omega) only [go_sem,↓reduceIte,deep,TD.rows,zAe,zAc,zAf,zAb,zAd,zAa,hx,wrN];exact rfl) ?_;simp -implicitDefEqProofs (disch:=omega) only [go_sem,↓reduceIte ,hx,wrN];exact ⟨i + 1,by omega,⟨hlt,hnx⟩,zDl⟩
    · obtain rfl : i = xs.length:=(by have : ¬ i < xs.length:=(by simpa using hlt);omega);rw [List.take_length] at hok;rw [hyes,hok];simp -implicitDefEqProofs (disch:=omega) only [go_sem,↓reduceIte]
theorem zNn (p : Piece) : Contract Tryz.prog zA6 61 [.iptr (Piece.td.d false p) 0] (.v (.bool (zZj p))):=by
  rw [Piece.td_d];refine zJt ?_;unfold code_spec_l24Piece zZj;simp -implicitDefEqProofs (disch:=omega) only [go_sem,↓reduceIte];cases h1 : inR 0 5 p.Color with
  | false => refine zAp (zDd _ _ _) (by simp -implicitDefEqProofs (disch:=omega) only [go_sem,↓reduceIte,deep,TD.rows,zAe,zAc,zAf,zAb,zAd,zAa,h1];exact rfl) ?_;simp -implicitDefEqProofs (disch:=omega) only [go_sem,↓reduceIte ,h1]
  | true =>
  refine zAp (zDd _ _ _) (by simp -implicitDefEqProofs (disch:=omega) only [go_sem,↓reduceIte,deep,TD.rows,zAe,zAc,zAf,zAb,zAd,zAa,h1];exact rfl) ?_;simp -implicitDefEqProofs (disch:=omega) only [go_sem,↓reduceIte ,h1];cases h2 : inR 0 119 p.North with
  | false => refine zAp (zDd _ _ _) (by simp -implicitDefEqProofs (disch:=omega) only [go_sem,↓reduceIte,deep,TD.rows,zAe,zAc,zAf,zAb,zAd,zAa,h2];exact rfl) ?_;simp -implicitDefEqProofs (disch:=omega) only [go_sem,↓reduceIte ,h2]
  | true =>
  refine zAp (zDd _ _ _) (by simp -implicitDefEqProofs (disch:=omega) only [go_sem,↓reduceIte,deep,TD.rows,zAe,zAc,zAf,zAb,zAd,zAa,h2];exact rfl) ?_;simp -implicitDefEqProofs (disch:=omega) only [go_sem,↓reduceIte ,h2];cases h3 : inR 0 119 p.East with
  | false => refine zAp (zDd _ _ _) (by simp -implicitDefEqProofs (disch:=omega) only [go_sem,↓reduceIte,deep,TD.rows,zAe,zAc,zAf,zAb,zAd,zAa,h3];exact rfl) ?_;simp -implicitDefEqProofs (disch:=omega) only [go_sem,↓reduceIte ,h3]
  | true =>
  refine zAp (zDd _ _ _) (by simp -implicitDefEqProofs (disch:=omega) only [go_sem,↓reduceIte,deep,TD.rows,zAe,zAc,zAf,zAb,zAd,zAa,h3];exact rfl) ?_;simp -implicitDefEqProofs (disch:=omega) only [go_sem,↓reduceIte ,h3];cases h4 : inR 0 119 p.South with
  | false => refine zAp (zDd _ _ _) (by simp -implicitDefEqProofs (disch:=omega) only [go_sem,↓reduceIte,deep,TD.rows,zAe,zAc,zAf,zAb,zAd,zAa,h4];exact rfl) ?_;simp -implicitDefEqProofs (disch:=omega) only [go_sem,↓reduceIte ,h4]
  | true =>
  refine zAp (zDd _ _ _) (by simp -implicitDefEqProofs (disch:=omega) only [go_sem,↓reduceIte,deep,TD.rows,zAe,zAc,zAf,zAb,zAd,zAa,h4];exact rfl) ?_;simp -implicitDefEqProofs (disch:=omega) only [go_sem,↓reduceIte ,h4];refine zAp (zDd _ _ _) (by simp -implicitDefEqProofs (disch:=omega) only [go_sem,↓reduceIte,deep,TD.rows,zAe,zAc,zAf,zAb,zAd,zAa];exact rfl) ?_;simp -implicitDefEqProofs (disch:=omega) only [go_sem,↓reduceIte]
theorem nd_next {ps : List Piece} {i : Nat} (hi : i < ps.length) : ((ps.take (i + 1)).map kkP).Nodup ↔ ((ps.take i).map kkP).Nodup ∧ ∀ k (hk : k < i),kkP (ps[k]'(by omega)) ≠ kkP ps[i]:=by
  rw [zR3 hi,List.map_append,List.nodup_append];constructor
  · rintro ⟨h1,_,h2⟩;exact ⟨h1,fun k hk => h2 _ (List.mem_map.2 ⟨ps[k],List.mem_take_iff_getElem.2 ⟨k,by omega,rfl⟩,rfl⟩) _ (by simp)⟩
  · rintro ⟨h1,h2⟩;refine ⟨h1,by simp,fun a ha b hb => ?_⟩;simp only [List.map_cons,List.map_nil,List.mem_singleton] at hb;subst hb;obtain ⟨x,hx,rfl⟩:=List.mem_map.1 ha;obtain ⟨k,hk,rfl⟩:=List.mem_take_iff_getElem.1 hx;exact h2 k (by omega)
theorem nd_no {ps : List Piece} {i k : Nat} (hi : i < ps.length) (hk : k < i) (h : kkP (ps[k]'(by omega)) = kkP ps[i]) : ¬ (ps.map kkP).Nodup:=fun hn => by have:=List.pairwise_iff_getElem.1 hn k i (by rw [List.length_map];omega) (by rw [List.length_map];exact hi) hk;simp only [List.getElem_map] at this;exact this h
set_option maxHeartbeats 1000000 in
theorem zRz (d : Design) (hd : dsnB d) : Contract Tryz.prog zA6 25 [.iptr (Design.td.d false d) 0] (.v (.bool (zC7 d))):=by
  have hb:=hd.b;have hl:=hd.l;have hp:=hd.p;rw [Design.td_d];refine zIr ?_;unfold code_spec_l24Design;simp -implicitDefEqProofs (disch:=omega) only [go_sem,↓reduceIte];cases h1 : zEv d.Bottom with
  | false => have hno : zC7 d = false:=(by unfold zC7;rw [h1];rfl);refine zAp (zFa d.Bottom hb) (by simp -implicitDefEqProofs (disch:=omega) only [go_sem,↓reduceIte,deep,TD.rows,zAe,zAc,zAf,zAb,zAd,zAa,h1,hno];exact rfl) ?_;simp -implicitDefEqProofs (disch:=omega) only [go_sem,↓reduceIte ,h1,hno]
  | true =>
  refine zAp (zFa d.Bottom hb) (by simp -implicitDefEqProofs (disch:=omega) only [go_sem,↓reduceIte,deep,TD.rows,zAe,zAc,zAf,zAb,zAd,zAa,h1];exact rfl) ?_;simp -implicitDefEqProofs (disch:=omega) only [go_sem,↓reduceIte ,h1];cases h2 : zEv d.Left with
  | false => have hno : zC7 d = false:=(by unfold zC7;rw [h1,h2];rfl);refine zAp (zFa d.Left hl) (by simp -implicitDefEqProofs (disch:=omega) only [go_sem,↓reduceIte,deep,TD.rows,zAe,zAc,zAf,zAb,zAd,zAa,h2,hno];exact rfl) ?_;simp -implicitDefEqProofs (disch:=omega) only [go_sem,↓reduceIte ,h2,hno]
  | true =>
  refine zAp (zFa d.Left hl) (by simp -implicitDefEqProofs (disch:=omega) only [go_sem,↓reduceIte,deep,TD.rows,zAe,zAc,zAf,zAb,zAd,zAa,h2,List.length_map];exact rfl) ?_;simp -implicitDefEqProofs (disch:=omega) only [go_sem,↓reduceIte ,h2,List.length_map];refine zAk ?_ ?_ <;> intro h3
  · have h3 : ¬ d.Pieces.length ≤ 100:=(by rw [decide_eq_true_eq] at h3;omega);have hno : zC7 d = false:=(by unfold zC7;rw [decide_eq_false h3,Bool.false_and,Bool.and_false,Bool.and_false]);simp -implicitDefEqProofs (disch:=omega) only [go_sem,↓reduceIte ,hno]
  · have h3 : d.Pieces.length ≤ 100:=(by rw [decide_eq_false_iff_not] at h3;omega);have hyes : zC7 d = (d.Pieces.all zZj && decide ((d.Pieces.map kkP).Nodup)):=(by unfold zC7;rw [h1,h2,decide_eq_true h3];rfl);simp -implicitDefEqProofs (disch:=omega) only [go_sem,↓reduceIte];refine zCh (by simp -implicitDefEqProofs (disch:=omega) only [go_sem,↓reduceIte];exact rfl) (fun i : Nat => [(3,.v (.int .i64 (i : Nat)))]) (fun _ => by simp only [zCb,zBo,List.set_cons_zero,List.set_cons_succ];exact rfl) (fun i : Nat => i ≤ d.Pieces.length ∧ (d.Pieces.take i).all zZj = true ∧ ((d.Pieces.take i).map kkP).Nodup) (fun i : Nat => d.Pieces.length - i) (0) (zDl) (?_) ?_
    · exact ⟨Nat.zero_le _,rfl,by simp⟩
    rintro i ⟨hi,hok,hnd⟩;simp -implicitDefEqProofs (disch:=omega) only [go_sem,↓reduceIte ,List.length_map,Int.toNat_natCast,Int.ofNat_lt,Int.natCast_nonneg,List.getElem?_map,Option.map_some];refine zAk ?_ ?_ <;> intro hlt
    · have hlt : i < d.Pieces.length:=(by simpa using hlt);have e1:=List.getElem?_eq_getElem hlt;cases hx : zZj d.Pieces[i] with
      | false => have hno : zC7 d = false:=(by rw [hyes,all_no hlt hx];rfl);simp -implicitDefEqProofs (disch:=omega) only [go_sem,↓reduceIte ,List.length_map,Int.toNat_natCast,Int.ofNat_lt,Int.natCast_nonneg,List.getElem?_map,Option.map_some,hlt,e1];refine zAp (zNn d.Pieces[i]) (by simp -implicitDefEqProofs (disch:=omega) only [go_sem,↓reduceIte,deep,TD.rows,zAe,zAc,zAf,zAb,zAd,zAa,hx,hno];exact rfl) ?_;simp -implicitDefEqProofs (disch:=omega) only [go_sem,↓reduceIte ,hx,hno]
      | true =>
        have hnx : (d.Pieces.take (i + 1)).all zZj = true:=(by rw [zR3 hlt,List.all_append,hok,List.all_cons,hx];rfl);simp -implicitDefEqProofs (disch:=omega) only [go_sem,↓reduceIte ,List.length_map,Int.toNat_natCast,Int.ofNat_lt,Int.natCast_nonneg,List.getElem?_map,Option.map_some,hlt,e1];refine zAp (zNn d.Pieces[i]) (by simp -implicitDefEqProofs (disch:=omega) only [go_sem,↓reduceIte,deep,TD.rows,zAe,zAc,zAf,zAb,zAd,zAa,hx];exact rfl) ?_;simp -implicitDefEqProofs (disch:=omega) only [go_sem,↓reduceIte ,hx];refine zCh (by simp -implicitDefEqProofs (disch:=omega) only [go_sem,↓reduceIte];exact rfl) (fun k : Nat => [(4,.v (.int .i64 (k : Nat)))]) (fun _ => by simp only [zCb,zBo,List.set_cons_zero,List.set_cons_succ];exact rfl) (fun k : Nat => k ≤ i ∧ ∀ j (hj : j < k) (hj' : j < d.Pieces.length),kkP d.Pieces[j] ≠ kkP d.Pieces[i]) (fun k : Nat => i - k) (0) (zDl) (?_) ?_
        · exact ⟨Nat.zero_le _,fun j hj => absurd hj (by omega)⟩
        rintro k ⟨hk,hall⟩;simp -implicitDefEqProofs (disch:=omega) only [go_sem,↓reduceIte ,List.length_map,Int.toNat_natCast,Int.ofNat_lt,Int.natCast_nonneg,List.getElem?_map,Option.map_some];refine zAk ?_ ?_ <;> intro hlk
        · have hlk : k < i:=(by simpa using hlk);have hkp : k < d.Pieces.length:=(by omega);have e2:=List.getElem?_eq_getElem hkp;cases q1 : decide (d.Pieces[k].South = d.Pieces[i].South) with
          | false =>
            have hne : ∀ j (hj : j < k + 1) (hj' : j < d.Pieces.length),kkP d.Pieces[j] ≠ kkP d.Pieces[i]:=by
              intro j hj hj' e;rcases Nat.lt_succ_iff_lt_or_eq.1 hj with h | rfl
              · exact hall j h hj' e
              · have:=(Prod.mk.inj e).1;rw [decide_eq_false_iff_not] at q1;exact q1 this
            simp -implicitDefEqProofs (disch:=omega) only [go_sem,↓reduceIte ,List.length_map,Int.toNat_natCast,Int.ofNat_lt,Int.natCast_nonneg,List.getElem?_map,Option.map_some,hlt,e1,hkp,e2,Piece.td_d,q1,wrN];exact ⟨k + 1,by omega,⟨hlk,hne⟩,zDl⟩
          | true =>
            cases q2 : decide (d.Pieces[k].West = d.Pieces[i].West) with
            | false =>
              have hne : ∀ j (hj : j < k + 1) (hj' : j < d.Pieces.length),kkP d.Pieces[j] ≠ kkP d.Pieces[i]:=by
                intro j hj hj' e;rcases Nat.lt_succ_iff_lt_or_eq.1 hj with h | rfl
                · exact hall j h hj' e
                · have:=(Prod.mk.inj e).2;rw [decide_eq_false_iff_not] at q2;exact q2 this
              simp -implicitDefEqProofs (disch:=omega) only [go_sem,↓reduceIte ,List.length_map,Int.toNat_natCast,Int.ofNat_lt,Int.natCast_nonneg,List.getElem?_map,Option.map_some,hlt,e1,hkp,e2,Piece.td_d,q1,q2,wrN];exact ⟨k + 1,by omega,⟨hlk,hne⟩,zDl⟩
            | true =>
              rw [decide_eq_true_eq] at q1 q2;have hno : zC7 d = false:=by rw [hyes,decide_eq_false (nd_no hlt hlk (by unfold kkP;rw [q1,q2])),Bool.and_false]
              have q1':=decide_eq_true q1;have q2':=decide_eq_true q2;simp -implicitDefEqProofs (disch:=omega) only [go_sem,↓reduceIte ,List.length_map,Int.toNat_natCast,Int.ofNat_lt,Int.natCast_nonneg,List.getElem?_map,Option.map_some,hlt,e1,hkp,e2,Piece.td_d,q1',q2',hno]
        · have hki : k = i:=(by have : ¬ k < i:=(by simpa using hlk);omega);subst hki;have hnn:=(nd_next hlt).2 ⟨hnd,fun j hj => hall j hj (by omega)⟩;simp -implicitDefEqProofs (disch:=omega) only [go_sem,↓reduceIte ,wrN];exact ⟨k + 1,by omega,⟨hlt,hnx,hnn⟩,zDl⟩
    · obtain rfl : i = d.Pieces.length:=(by have : ¬ i < d.Pieces.length:=(by simpa using hlt);omega);rw [List.take_length] at hok hnd;have hy : zC7 d = true:=(by rw [hyes,hok,decide_eq_true hnd];rfl);simp -implicitDefEqProofs (disch:=omega) only [go_sem,↓reduceIte ,hy]
end Go.Proofs.YtdjjffhlplchjaaGreatDoor
