/- Laws that the proof stands on. -/
import Derived.Test.YtdlchnlpmofpmaaGreatDoorZVSortPl
import Derived.Test.YtdlchnlpmofpmaaGreatDoorZg13
import Derived.Test.YtdlchnlpmofpmaaGreatDoorZVTab
import Derived.Test.YtdlchnlpmofpmaaGreatDoorZg24
import Derived.Test.YtdlchnlpmofpmaaGreatDoorZVRdB
set_option linter.all false
namespace Go.Proofs.YtdlchnlpmofpmaaGreatDoor
open Go.RowKit Go.V
attribute [local go_sem] List.getElem?_cons_succ List.getElem?_cons_zero List.set_cons_succ List.set_cons_zero List.map_cons List.map_nil List.length_cons List.length_nil List.all_cons List.all_nil List.drop_succ_cons List.drop_zero List.take_succ_cons List.take_zero List.flatMap_cons List.flatMap_nil List.cons_append List.nil_append List.append_nil List.headD_cons Value.oneCell' Bool.and_true Bool.true_and Bool.or_false Bool.false_or Bool.and_self Bool.not_true Bool.not_false and_true true_and beq_self_eq_true Bool.false_eq_true if_true if_false Nat.zero_add Nat.reduceAdd Nat.reduceMul Nat.reduceLeDiff Nat.le_refl Option.isSome_some Option.isSome_none not_true_eq_false not_false_eq_true ne_eq reduceCtorEq List.reverse_nil bne_self_eq_false Nat.reduceEqDiff List.isPrefixOf Bool.not_eq_true Bool.and_false Bool.false_and Bool.true_or Bool.or_true decide_true decide_false Nat.reduceBEq Nat.reduceBNe List.replicate_succ List.replicate_zero exists_eq_left' exists_eq_left Option.some.injEq or_false or_true true_or false_or Option.map_some Option.map_none mB Nat.reduceMod Nat.reduceDiv
set_option maxRecDepth 100000
def code_impl_assemblyOf:VCode:=(.seq (.ops [
  ⟨(some 2),none,(.alloc [(.slice none 0 0)])⟩]) (.seq (.ops [
  ⟨(some 4),none,(.mv (.tmp 0))⟩,
  ⟨(some 5),none,(.callX 53 [(.tmp 4)])⟩,
  ⟨(some 3),none,(.asg (.tmp 5))⟩]) (.seq (.ops [
  ⟨(some 6),none,(.mv (.tmp 3))⟩,
  ⟨(some 7),none,(.callX 54 [(.tmp 6),(.func 55)])⟩]) (.seq (.ops [
  ⟨(some 8),none,(.mv (.tmp 3))⟩,
  ⟨(some 9),none,(.build [(.slice none 0 0)] [(0,1,(.tmp 8))])⟩,
  ⟨none,none,(.store 1 (.tmp 2) (.tmp 9))⟩]) .ret))))
theorem zHj {a0 d:D}(h:code_impl_assemblyOf.wp (CT Tryz.prog zAr) (zC9 [(.c 2 1 true)] d) [a0,.undef,.undef,.undef,.undef,.undef,.undef,.undef,.undef,.undef]):Contract Tryz.prog zAr 25 [a0] d :=
  zAk (pt:=0) zC6 Tryz.func25 (fun us W=>by kernel_rfl) (c:=Tryz.f25.body.getD .skip) (ms:=[]) (ms':=[]) (by kernel_rfl) (by kernel_rfl) (by kernel_rfl) h
theorem zQ2 (xs:List Placed)(hl:xs.length≤1048576)(hx:xs.Pairwise (fun x y=>x.At≠y.At)):Contract Tryz.prog zAr 25 [.sl false 3 (xs.map (Placed.td.d false))] (.agg (Assembly.td.d true ⟨zL8 xs⟩)):=by rw [Assembly.td_d];refine zHj ?_;unfold code_impl_assemblyOf;simp -implicitDefEqProofs (disch:=omega) only [go_sem,↓reduceIte];refine zAm (zN0 xs hl) (by simp -implicitDefEqProofs (disch:=omega) only [go_sem,↓reduceIte,deep,TD.rows,zAe,zAc,zAf,zAb,zAd,zAa];exact rfl) ?_;simp -implicitDefEqProofs (disch:=omega) only [go_sem,↓reduceIte];refine zY2 (r:=3) (yEm xs hl hx) rfl rfl rfl rfl ?_;simp -implicitDefEqProofs (disch:=omega) only [go_sem,↓reduceIte]
def zQv (s:TileSet) (ht:s.Tiles.length≤1048576):Rdr (List Placed) where
  F:=24
  cel:=raD s
  st:=fun xs l=>exA xs (zA8 s.Tiles xs (zBk l))
  J:=fun _ xs=>RaB s.Tiles.length xs
  pr:=fun q s=>rfl
  law:=fun i xs l hi hJ hl=>yVs s xs l hl ht hJ.len
  next:=fun i xs l hJ h0=>by
    cases hr:zA8 s.Tiles xs (zBk l) with
    | error c=>rw [hr] at h0;have h0:c=0:=h0;rcases zGo hr with h | h | h | h<;>omega
    | ok ys=>exact zVi hJ hr
theorem yWa (s:TileSet)(ht:s.Tiles.length≤1048576)(ls:List ByteArray):∀ (i:Nat) (xs:List Placed),(match zCj (zZe s.Tiles) ls i xs with
    | .ok ys=>((zQv s ht).go ls i xs).1=none∧((zQv s ht).go ls i xs).2=ys
    | .error (k,c)=>((zQv s ht).go ls i xs).1=some (k,c)):=by
  induction ls with
  | nil=>intro i xs;exact ⟨rfl,rfl⟩
  | cons l ls ih =>
    intro i xs;have e3:(zQv s ht).go (l::ls) i xs=if (exA xs (zA8 s.Tiles xs (zBk l))).1=0 then (zQv s ht).go ls (i+1) (exA xs (zA8 s.Tiles xs (zBk l))).2 else (some (i+1,(exA xs (zA8 s.Tiles xs (zBk l))).1),(exA xs (zA8 s.Tiles xs (zBk l))).2):=rfl
    simp only [zCj,zZe];cases hr:zA8 s.Tiles xs (zBk l) with
    | error c =>
      have hc:¬ c=0:=by rcases zGo hr with h | h | h | h<;>rw [h]<;>decide
      have e4:(zQv s ht).go (l::ls) i xs=(some (i+1,c),xs):=(by rw [e3,if_neg (by rw [hr];exact hc),hr];rfl);simp only;rw [e4]
    | ok ys=>have e4:(zQv s ht).go (l::ls) i xs=(zQv s ht).go ls (i+1) ys:=(by rw [e3,if_pos (by rw [hr];rfl),hr];rfl);rw [e4];exact ih (i+1) ys
def code_impl_readCode:VCode:=(.seq (.ops [
  ⟨(some 2),none,(.box (.tmp 0))⟩,
  ⟨(some 4),none,(.asg (.const (.int .i64 0)))⟩]) (.seq (.block 0 (.seq (.ops [
  ⟨(some 6),none,(.load 2 true (.tmp 2))⟩,
  ⟨(some 7),none,(.callX 45 [(.tmp 6)])⟩,
  ⟨(some 8),none,(.un .not (.tmp 7))⟩,
  ⟨(some 5),none,(.asg (.tmp 8))⟩]) (.cond (.tmp 5) (.seq (.ops [
  ⟨(some 4),none,(.asg (.const (.int .i64 1)))⟩]) .ret) (.seq (.ops [
  ⟨(some 10),none,(.mv (.tmp 1))⟩,
  ⟨(some 11),none,(.lenS (.tmp 10))⟩,
  ⟨(some 12),none,(.bin .gtr (.tmp 11) (.const (.int .i64 20000)))⟩,
  ⟨(some 9),none,(.asg (.tmp 12))⟩]) (.cond (.tmp 9) (.seq (.ops [
  ⟨(some 4),none,(.asg (.const (.int .i64 2)))⟩]) .ret) .skip))))) (.seq (.ops [
  ⟨(some 4),none,(.asg (.const (.int .i64 0)))⟩]) .ret)))
theorem zJ7 {a0 a1 d:D}(h:code_impl_readCode.wp (CT Tryz.prog zAr) (zC9 [(.t 4)] d) [a0,a1,.undef,.undef,.undef,.undef,.undef,.undef,.undef,.undef,.undef,.undef,.undef]):Contract Tryz.prog zAr 21 [a0,a1] d :=
  zAk (pt:=0) zC6 Tryz.func21 (fun us W=>by kernel_rfl) (c:=Tryz.f21.body.getD .skip) (ms:=[]) (ms':=[]) (by kernel_rfl) (by kernel_rfl) (by kernel_rfl) h
def code_impl_ReadAssembly:VCode:=(.seq (.ops [
  ⟨(some 2),none,(.box (.tmp 0))⟩,
  ⟨(some 4),none,(.alloc [(.slice none 0 0)])⟩,
  ⟨(some 5),none,(.asg (.const (.int .i64 0)))⟩,
  ⟨(some 6),none,(.asg (.const (.int .i64 0)))⟩]) (.seq (.seq (.ops [
  ⟨(some 11),none,(.load 2 true (.tmp 2))⟩,
  ⟨(some 12),none,(.mv (.tmp 1))⟩,
  ⟨(some 13),none,(.callX 21 [(.tmp 11),(.tmp 12)])⟩,
  ⟨(some 7),none,(.asg (.tmp 13))⟩]) (.seq (.ops [
  ⟨(some 14),none,(.mv (.tmp 7))⟩,
  ⟨(some 15),none,(.bin .neq (.tmp 14) (.const (.int .i64 0)))⟩]) (.cond (.tmp 15) (.seq (.ops [
  ⟨(some 16),none,(.build [(.slice none 0 0)] [])⟩,
  ⟨(some 17),none,(.mv (.tmp 7))⟩,
  ⟨none,none,(.store 1 (.tmp 4) (.tmp 16))⟩,
  ⟨(some 5),none,(.asg (.const (.int .i64 0)))⟩,
  ⟨(some 6),none,(.asg (.tmp 17))⟩]) .ret) .skip))) (.seq (.ops [
  ⟨(some 18),none,(.load 2 true (.tmp 2))⟩,
  ⟨(some 19),none,(.build [(.slice none 0 0),(.slice none 0 0),(.slice none 0 0)] [(0,2,(.tmp 18))])⟩,
  ⟨(some 20),none,(.box (.tmp 19))⟩,
  ⟨(some 8),none,(.asg (.tmp 20))⟩]) (.seq (.seq (.ops [
  ⟨(some 22),none,(.mv (.tmp 1))⟩,
  ⟨(some 23),none,(.mv (.tmp 8))⟩,
  ⟨(some 24),none,(.mkf 24 [(.tmp 23)] [])⟩,
  ⟨(some 25),none,(.callX 23 [(.tmp 22),(.tmp 24)])⟩,
  ⟨(some 26),none,(.callX 22 [(.tmp 25)])⟩,
  ⟨(some 21),none,(.mv (.tmp 26))⟩,
  ⟨(some 27),none,(.ext (.tmp 21) 0)⟩,
  ⟨(some 28),none,(.ext (.tmp 21) 1)⟩,
  ⟨(some 9),none,(.asg (.tmp 27))⟩,
  ⟨(some 10),none,(.asg (.tmp 28))⟩]) (.seq (.ops [
  ⟨(some 29),none,(.mv (.tmp 10))⟩,
  ⟨(some 30),none,(.bin .neq (.tmp 29) (.const (.int .i64 0)))⟩]) (.cond (.tmp 30) (.seq (.ops [
  ⟨(some 31),none,(.build [(.slice none 0 0)] [])⟩,
  ⟨(some 32),none,(.mv (.tmp 9))⟩,
  ⟨(some 33),none,(.mv (.tmp 10))⟩,
  ⟨none,none,(.store 1 (.tmp 4) (.tmp 31))⟩,
  ⟨(some 5),none,(.asg (.tmp 32))⟩,
  ⟨(some 6),none,(.asg (.tmp 33))⟩]) .ret) .skip))) (.seq (.ops [
  ⟨(some 34),none,(.mv (.tmp 8))⟩,
  ⟨(some 35),none,(.nilc (.tmp 34))⟩,
  ⟨(some 36),none,(.fa 2 (.tmp 35))⟩,
  ⟨(some 37),none,(.load 1 false (.tmp 36))⟩,
  ⟨(some 38),none,(.callX 25 [(.tmp 37)])⟩,
  ⟨none,none,(.store 1 (.tmp 4) (.tmp 38))⟩,
  ⟨(some 5),none,(.asg (.const (.int .i64 0)))⟩,
  ⟨(some 6),none,(.asg (.const (.int .i64 0)))⟩]) .ret)))))
theorem zGc {a0 a1 d:D}(h:code_impl_ReadAssembly.wp (CT Tryz.prog zAr) (zC9 [(.c 4 1 true),(.t 5),(.t 6)] d) [a0,a1,.undef,.undef,.undef,.undef,.undef,.undef,.undef,.undef,.undef,.undef,.undef,.undef,.undef,.undef,.undef,.undef,.undef,.undef,.undef,.undef,.undef,.undef,.undef,.undef,.undef,.undef,.undef,.undef,.undef,.undef,.undef,.undef,.undef,.undef,.undef,.undef,.undef]):Contract Tryz.prog zAr 7 [a0,a1] d :=
  zAk (pt:=0) zC6 Tryz.func7 (fun us W=>by kernel_rfl) (c:=Tryz.f7.body.getD .skip) (ms:=[]) (ms':=[]) (by kernel_rfl) (by kernel_rfl) (by kernel_rfl) h
def zRv (s:TileSet)(b:ByteArray):Int:=if zD2 s=false then 1 else if 20000<b.size then 2 else 0
theorem zWp (s:TileSet)(hs:setB s)(b:ByteArray):Contract Tryz.prog zAr 21 [.agg (TileSet.td.d false s),.v (.string b)] (.v (.int .i64 (zRv s b))):=by
  have hM:=zWv s hs;unfold zRv;rw [TileSet.td_d] at hM ⊢;refine zJ7 ?_;unfold code_impl_readCode;cases hok:zD2 s with
  | false=>rw [hok] at hM;rw [if_pos rfl];simp -implicitDefEqProofs (disch:=omega) only [go_sem,↓reduceIte];refine zAm (hM) (by simp -implicitDefEqProofs (disch:=omega) only [go_sem,↓reduceIte,deep,TD.rows,zAe,zAc,zAf,zAb,zAd,zAa];exact rfl) ?_;simp -implicitDefEqProofs (disch:=omega) only [go_sem,↓reduceIte]
  | true =>
    rw [hok] at hM;rw [if_neg (by decide)];by_cases hbig:20000<b.size
    · have d1:decide ((b.size:Int)>20000)=true:=decide_eq_true (by omega);rw [if_pos hbig];simp -implicitDefEqProofs (disch:=omega) only [go_sem,↓reduceIte];refine zAm (hM) (by simp -implicitDefEqProofs (disch:=omega) only [go_sem,↓reduceIte,deep,TD.rows,zAe,zAc,zAf,zAb,zAd,zAa,d1];exact rfl) ?_;simp -implicitDefEqProofs (disch:=omega) only [go_sem,↓reduceIte ,d1]
    · have d1:decide ((b.size:Int)>20000)=false:=decide_eq_false (by omega);rw [if_neg hbig];simp -implicitDefEqProofs (disch:=omega) only [go_sem,↓reduceIte];refine zAm (hM) (by simp -implicitDefEqProofs (disch:=omega) only [go_sem,↓reduceIte,deep,TD.rows,zAe,zAc,zAf,zAb,zAd,zAa,d1];exact rfl) ?_;simp -implicitDefEqProofs (disch:=omega) only [go_sem,↓reduceIte ,d1]
set_option maxHeartbeats 40000000 in
theorem zHa (s:TileSet) (hs:setB s) (b:ByteArray) (hb:b.size≤1048576):Contract Tryz.prog zAr 7 [.agg (TileSet.td.d false s),.v (.string b)] (.tup [.agg (Assembly.td.d true (zAp s b).1),.v (.int .i64 (zAp s b).2.1),.v (.int .i64 (zAp s b).2.2)]):=by
  have hC:=zWp s hs b;rw [Assembly.td_d];rw [TileSet.td_d] at hC ⊢;refine zGc ?_;unfold code_impl_ReadAssembly;cases hok:zD2 s with
  | false =>
    rw [yJ2 hok];have hc:zRv s b=1:=by unfold zRv;rw [if_pos hok]
    rw [hc] at hC;have d1:decide ((1:Int)=0)=false:=rfl;simp -implicitDefEqProofs (disch:=omega) only [go_sem,↓reduceIte];refine zAm (hC) (by simp -implicitDefEqProofs (disch:=omega) only [go_sem,↓reduceIte,deep,TD.rows,zAe,zAc,zAf,zAb,zAd,zAa,d1];exact rfl) ?_;simp -implicitDefEqProofs (disch:=omega) only [go_sem,↓reduceIte ,d1];rfl
  | true =>
    by_cases hbig:20000<b.size
    · rw [yJ3 hok hbig];have hc:zRv s b=2:=by unfold zRv;rw [if_neg (by rw [hok];decide),if_pos hbig]
      rw [hc] at hC;have d1:decide ((2:Int)=0)=false:=rfl;simp -implicitDefEqProofs (disch:=omega) only [go_sem,↓reduceIte];refine zAm (hC) (by simp -implicitDefEqProofs (disch:=omega) only [go_sem,↓reduceIte,deep,TD.rows,zAe,zAc,zAf,zAb,zAd,zAa,d1];exact rfl) ?_;simp -implicitDefEqProofs (disch:=omega) only [go_sem,↓reduceIte ,d1];rfl
    · have hc:zRv s b=0:=(by unfold zRv;rw [if_neg (by rw [hok];decide),if_neg hbig]);rw [hc] at hC;have d1:decide ((0:Int)=0)=true:=rfl;have ht:s.Tiles.length≤1048576:=(by have:=zMk hok;omega);have hL:=zS8 (zQv s ht) b hb [] (yGk _);have hG:=yWa s ht (zA5 b) 0 [];simp -implicitDefEqProofs (disch:=omega) only [go_sem,↓reduceIte];refine zAm (hC) (by simp -implicitDefEqProofs (disch:=omega) only [go_sem,↓reduceIte,deep,TD.rows,zAe,zAc,zAf,zAb,zAd,zAa,d1];exact rfl) ?_;simp -implicitDefEqProofs (disch:=omega) only [go_sem,↓reduceIte ,d1];have hL2:zBj Tryz.prog zAr 23 1 [.v (.string b),.undef] (.fn (zQv s ht).F [.box none [.sl false 2 (s.Glues.map (Glue.td.d false)),.sl false 2 (s.Tiles.map (Tile.td.d false)),.nils]] []) (rdE 91 ((zQv s ht).go (zA5 b) 0 []).1) (.fn (zQv s ht).F [.box none ((zQv s ht).cel ((zQv s ht).go (zA5 b) 0 []).2)] []) :=
        ⟨hL.1,fun w I us u X hG hI hu hV hT hn hX=>hL.2 w I us u X hG hI hu hV (T.nle _ _ hT (by
          show Go.V.nle (.fn (zQv s ht).F [.box none [.sl false 2 (s.Glues.map (Glue.td.d false)),.sl false 2 (s.Tiles.map (Tile.td.d false)),.nils]] []) (.fn (zQv s ht).F [.box none (raD s [])] []);simp only [Go.V.nle];exact ⟨_,rfl,zA7 (zCe (zA7 (zBd rfl) (zA7 (zBd rfl) (zA7 zCd zBo)))) zBo⟩)) hn hX⟩
      refine zUq (i:=1) (r:=20) hL2 rfl rfl rfl rfl rfl (zAz rfl) rfl ?_;generalize hgo:(zQv s ht).go (zA5 b) 0 []=z at hG ⊢;obtain ⟨e,xs⟩:=z;cases hf:zCj (zZe s.Tiles) (zA5 b) 0 [] with
      | error kc=>obtain ⟨k,c⟩:=kc;rw [hf] at hG;simp only at hG;subst hG;have hR:zAp s b=(asm0,(k:Int),c):=zMe hok hbig hf;rw [hR];have hE:=zQ0 (k:Int) c;have c6:decide (c=0)=false:=decide_eq_false (by rcases yMt _ _ _ _ _ hf with h | h | h | h<;>rw [h]<;>decide);simp -implicitDefEqProofs (disch:=omega) only [go_sem,↓reduceIte ,rdE];refine zAm (hE) (by simp -implicitDefEqProofs (disch:=omega) only [go_sem,↓reduceIte,deep,TD.rows,zAe,zAc,zAf,zAb,zAd,zAa,c6];exact rfl) ?_;simp -implicitDefEqProofs (disch:=omega) only [go_sem,↓reduceIte ,c6];rfl
      | ok ys =>
        rw [hf] at hG;simp only at hG;obtain ⟨rfl,rfl⟩:=hG;have hB:=zPu _ _ _ _ (yGk _) hf;have hR:zAp s b=(⟨zL8 xs⟩,0,0):=zMe hok hbig hf;rw [hR];have hA:=zQ2 xs (by have:=hB.len;omega) hB.dis;rw [Assembly.td_d] at hA;have hcl:(zQv s ht).cel xs=raD s xs:=rfl;rw [hcl];unfold raD;simp -implicitDefEqProofs (disch:=omega) only [go_sem,↓reduceIte ,rdE];refine zAm (zQz) (by simp -implicitDefEqProofs (disch:=omega) only [go_sem,↓reduceIte,deep,TD.rows,zAe,zAc,zAf,zAb,zAd,zAa];exact rfl) ?_;simp -implicitDefEqProofs (disch:=omega) only [go_sem,↓reduceIte];refine zAm (hA) (by simp -implicitDefEqProofs (disch:=omega) only [go_sem,↓reduceIte,deep,TD.rows,zAe,zAc,zAf,zAb,zAd,zAa];exact rfl) ?_;simp -implicitDefEqProofs (disch:=omega) only [go_sem,↓reduceIte]
        first | done | rfl
end Go.Proofs.YtdlchnlpmofpmaaGreatDoor
