/- Laws that the proof stands on. -/
import Derived.Test.YteaicicfbpehbaaGreatDoorZg17
import Derived.Test.YteaicicfbpehbaaGreatDoorZVTab
import Derived.Test.YteaicicfbpehbaaGreatDoorZg11
import Derived.Test.YteaicicfbpehbaaGreatDoorZg12
set_option linter.all false
namespace Go.Proofs.YteaicicfbpehbaaGreatDoor
open Go.RowKit Go.V
attribute [local go_sem] List.getElem?_cons_succ List.getElem?_cons_zero List.set_cons_succ List.set_cons_zero List.map_cons List.map_nil List.length_cons List.length_nil List.all_cons List.all_nil List.drop_succ_cons List.drop_zero List.take_succ_cons List.take_zero List.flatMap_cons List.flatMap_nil List.cons_append List.nil_append List.append_nil List.headD_cons Value.oneCell' Bool.and_true Bool.true_and Bool.or_false Bool.false_or Bool.and_self Bool.not_true Bool.not_false and_true true_and beq_self_eq_true Bool.false_eq_true if_true if_false Nat.zero_add Nat.reduceAdd Nat.reduceMul Nat.reduceLeDiff Nat.le_refl Option.isSome_some Option.isSome_none not_true_eq_false not_false_eq_true ne_eq reduceCtorEq List.reverse_nil bne_self_eq_false Nat.reduceEqDiff List.isPrefixOf Bool.not_eq_true Bool.and_false Bool.false_and Bool.true_or Bool.or_true decide_true decide_false Nat.reduceBEq Nat.reduceBNe List.replicate_succ List.replicate_zero exists_eq_left' exists_eq_left Option.some.injEq or_false or_true true_or false_or Option.map_some Option.map_none mB Nat.reduceMod Nat.reduceDiv
set_option maxRecDepth 100000
theorem zC3 (l:List UInt8):(⟨⟨l⟩⟩:ByteArray).size=l.length:=rfl
theorem zBm (l:List UInt8):(Array.mk l).size=l.length:=rfl
theorem zCv (n:Nat) (h:n≤1000000000):(Lib.decDigits n).length≤20:=by have:=zJs (n:Int) (by unfold InK;omega);rw [zQe] at this;exact this
theorem zPv {n:Nat} (h:n≤1000000000):InK .i64 (n:Int):=by unfold InK;omega
theorem szN {k n:Nat} (hk:k≤100000) (hn:n≤1000000000):(k+(zNf (n:Int)).size≤maxLen)=True:=by rw [eq_iff_iff];have:=zJs (n:Int) (zPv hn);simp only [iff_true];unfold maxLen;omega
theorem yQa {p:List UInt8} {n:Nat} {t:List UInt8}:(nm [(p,n)] t).size=p.length+(Lib.decDigits n).length+t.length:=by simp [nm,nmL,zC3,Nat.add_assoc]
theorem zCw (p:List UInt8) (n:Nat):(⟨⟨p⟩⟩:ByteArray)++zNf (n:Int)=nm [(p,n)] []:=by rw [zQe,zTk];simp [nm,nmL]
theorem zDw (k:List (List UInt8 × Nat)) (t u:List UInt8):nm k t++(⟨⟨u⟩⟩:ByteArray)=nm k (t++u):=by
  unfold nm;rw [zTk];congr 2;induction k with
  | nil=>rfl
  | cons x k ih=>obtain ⟨p,n⟩:=x;simp only [nmL,List.append_assoc];rw [← List.append_assoc,ih];simp [List.append_assoc]
theorem zCp (k:List (List UInt8 × Nat)) (t:List UInt8) (n:Nat):nm k t++zNf (n:Int)=nm (k++[(t,n)]) []:=by
  unfold nm;rw [zQe,zTk];congr 2;induction k with
  | nil=>simp [nmL]
  | cons x k ih=>obtain ⟨p,m⟩:=x;simp only [nmL,List.cons_append,List.append_assoc] at ih ⊢;rw [ih]
theorem zRp (G:List Glue) (n:ByteArray) (k:Int):(G++[Glue.mk n k]).map (Glue.td.d true)=G.map (Glue.td.d true)++[[.v (.string n),.v (.int .i64 k)]]:=by rw [List.map_append];rfl
theorem zQu (T:List Tile) (n:ByteArray) (s:List Int):(T++[Tile.mk n s]).map (Tile.td.d true)=T.map (Tile.td.d true)++[[.v (.string n),.sl true 1 (s.map rI)]]:=by rw [List.map_append];rfl
def code_impl_newMaker:VCode:=(.seq (.ops [
  ⟨(some 0),none,(.asg (.const (.pointer none)))⟩]) (.seq (.ops [
  ⟨(some 1),none,(.mkm .str)⟩,
  ⟨none,none,(.mupd .str (.tmp 1) (.const (.string ⟨⟨[45]⟩⟩)) (.const (.int .i64 0)))⟩,
  ⟨(some 2),none,(.mv (.tmp 1))⟩,
  ⟨(some 3),none,(.build [(.slice none 0 0),(.slice none 0 0),(.map none)] [(2,1,(.tmp 2))])⟩,
  ⟨(some 4),none,(.box (.tmp 3))⟩,
  ⟨(some 0),none,(.asg (.tmp 4))⟩]) .ret))
theorem zKk { d:D} (h:code_impl_newMaker.wp (CT Tryz.prog zA8) (zD5 [(.t 0)] d) [.undef,.undef,.undef,.undef,.undef]):Contract Tryz.prog zA8 56 [] d :=
  zAm (pt:=0) zDy Tryz.func56 (fun us W=>by kernel_rfl) (c:=Tryz.f56.body.getD .skip) (ms:=[]) (ms':=[]) (by kernel_rfl) (by kernel_rfl) (by kernel_rfl) h
theorem zVy:Contract Tryz.prog zA8 56 [] (.box none [.nils,.nils,.mp .str (zUy [])]):=by refine zKk ?_;unfold code_impl_newMaker;simp -implicitDefEqProofs (disch:=omega) only [go_sem,↓reduceIte];rfl
def code_impl_maker_glue:VCode:=(.seq (.ops [
  ⟨(some 6),none,(.mv (.tmp 0))⟩,
  ⟨(some 7),none,(.mv (.tmp 0))⟩,
  ⟨(some 8),none,(.nilc (.tmp 7))⟩,
  ⟨(some 9),none,(.fa 0 (.tmp 8))⟩,
  ⟨(some 10),none,(.fa 0 (.tmp 9))⟩,
  ⟨(some 11),none,(.load 1 false (.tmp 10))⟩,
  ⟨(some 12),none,(.mv (.tmp 1))⟩,
  ⟨(some 13),none,(.mv (.tmp 2))⟩,
  ⟨(some 14),none,(.build [(.string ⟨⟨[]⟩⟩),(.int .i64 0)] [(0,1,(.tmp 12)),(1,1,(.tmp 13))])⟩,
  ⟨(some 15),none,(.bsl 2 [(.tmp 14)])⟩,
  ⟨(some 16),none,(.app 2 24 (.tmp 11) (.tmp 15))⟩,
  ⟨(some 17),none,(.nilc (.tmp 6))⟩,
  ⟨(some 18),none,(.fa 0 (.tmp 17))⟩,
  ⟨(some 19),none,(.fa 0 (.tmp 18))⟩,
  ⟨none,none,(.store 1 (.tmp 19) (.tmp 16))⟩]) (.draw (mB 31 2146435072) [] [⟨0,(mB 31 2146435072),[],⟨(some 20),none,(.mv (.tmp 0))⟩⟩,⟨1,(mB 31 2145386496),[],⟨(some 21),none,(.nilc (.tmp 20))⟩⟩,⟨2,(mB 31 2143289344),[],⟨(some 22),none,(.fa 2 (.tmp 21))⟩⟩,⟨3,(mB 31 2139095040),[],⟨(some 23),none,(.load 1 false (.tmp 22))⟩⟩,⟨4,(mB 31 2146435072),[],⟨(some 24),none,(.mv (.tmp 1))⟩⟩,⟨5,(mB 31 2146435072),[],⟨(some 25),none,(.mv (.tmp 0))⟩⟩,⟨6,(mB 31 2112880640),[],⟨(some 26),none,(.nilc (.tmp 25))⟩⟩,⟨7,(mB 31 2045771776),[],⟨(some 27),none,(.fa 0 (.tmp 26))⟩⟩,⟨8,(mB 31 1911554048),[],⟨(some 28),none,(.fa 0 (.tmp 27))⟩⟩,⟨9,(mB 31 1643118592),[],⟨(some 29),none,(.load 1 false (.tmp 28))⟩⟩,⟨10,(mB 31 1106247680),[],⟨(some 30),none,(.len (.tmp 29))⟩⟩] [⟨none,none,(.mupd .str (.tmp 23) (.tmp 24) (.tmp 30))⟩]))
theorem zH8 {a0 a1 a2 d:D} {cells cells':List D} (h:∀ b,code_impl_maker_glue.wp (CT Tryz.prog zA8) (yGz [] d 0 b cells') [.box (some b) cells,a1,a2,.undef,.undef,.undef,.undef,.undef,.undef,.undef,.undef,.undef,.undef,.undef,.undef,.undef,.undef,.undef,.undef,.undef,.undef,.undef,.undef,.undef,.undef,.undef,.undef,.undef,.undef,.undef,.undef]):ContractX Tryz.prog zA8 87 0 [a0,a1,a2] cells d cells' :=
  zDx (pt:=0) zDy Tryz.func87 (fun us W=>by kernel_rfl) (c:=Tryz.f87.body.getD .skip) (ms:=[]) (ms':=[]) (by kernel_rfl) (by kernel_rfl) (by kernel_rfl) (by simp) h
set_option maxHeartbeats 1000000 in
theorem zCy (G:List Glue) (T:List Tile) (n:ByteArray) (k:Int) (hl:G.length≤100000) (hf:fresh G n) (hd:n≠zQf):ContractX Tryz.prog zA8 87 0 [.undef,.v (.string n),.v (.int .i64 k)] (mkI G T) (.tup []) (mkI (G++[Glue.mk n k]) T):=by
  refine zH8 ?_;intro b;unfold code_impl_maker_glue mkI;have hs:=yFq (k:=k) hf hd;have hc:((G++[Glue.mk n k]).length:Int)=(G.length:Int)+1:=by simp
  rw [zRp];simp -implicitDefEqProofs (disch:=omega) only [go_sem,↓reduceIte ,List.length_map,List.length_append,Int.natCast_add,Int.cast_ofNat_Int,hs];omega
def code_impl_maker_tile:VCode:=(.seq (.ops [
  ⟨(some 6),none,(.asg (.const (.int .i64 0)))⟩]) (.seq (.ops [
  ⟨(some 10),none,(.mv (.tmp 1))⟩,
  ⟨(some 11),none,(.build [(.string ⟨⟨[]⟩⟩),(.slice none 0 0)] [(0,1,(.tmp 10))])⟩,
  ⟨(some 7),none,(.alloc [(.string ⟨⟨[]⟩⟩),(.slice none 0 0)])⟩,
  ⟨none,none,(.store 2 (.tmp 7) (.tmp 11))⟩]) (.seq (.seq (.ops [
  ⟨(some 12),none,(.mv (.tmp 2))⟩,
  ⟨(some 13),none,(.len (.tmp 12))⟩,
  ⟨(some 14),none,(.mv (.const (.int .i64 0)))⟩]) (.block 0 (.loop (mB 49 562949953392510) (.seq (.ops [
  ⟨(some 15),none,(.bin .lss (.tmp 14) (.tmp 13))⟩]) (.seq (.cond (.tmp 15) .skip (.exit 0)) (.seq (.block 1 (.seq (.ops [
  ⟨(some 16),none,(.ia 1 (.tmp 12) (.tmp 14))⟩,
  ⟨(some 17),none,(.load 1 false (.tmp 16))⟩,
  ⟨(some 9),none,(.asg (.tmp 17))⟩]) (.draw (mB 27 133955584) (mB 26 33554432) [⟨0,(mB 27 133955584),[],⟨(some 18),none,(.fa 1 (.tmp 7))⟩⟩,⟨1,(mB 27 133693440),[],⟨(some 19),none,(.load 1 false (.tmp 18))⟩⟩,⟨2,(mB 27 133955584),[],⟨(some 20),none,(.mv (.tmp 0))⟩⟩,⟨3,(mB 27 132907008),[],⟨(some 21),none,(.nilc (.tmp 20))⟩⟩,⟨4,(mB 27 130809856),[],⟨(some 22),none,(.fa 2 (.tmp 21))⟩⟩,⟨5,(mB 27 126615552),[],⟨(some 23),none,(.load 1 false (.tmp 22))⟩⟩,⟨6,(mB 27 133955584),[],⟨(some 24),none,(.mv (.tmp 9))⟩⟩,⟨7,(mB 27 101449728),[],⟨(some 25),none,(.mlk .str (.int .i64 0) false (.tmp 23) (.tmp 24))⟩⟩,⟨8,(mB 27 67895296),(mB 26 33554432),⟨(some 26),none,(.bslN 1 [(.tmp 25)])⟩⟩] [⟨(some 27),none,(.app 1 8 (.tmp 19) (.tmp 26))⟩,⟨(some 28),none,(.fa 1 (.tmp 7))⟩,⟨none,none,(.store 1 (.tmp 28) (.tmp 27))⟩]))) (.ops [
  ⟨(some 29),none,(.bin .add (.tmp 14) (.const (.int .i64 1)))⟩,
  ⟨(some 14),none,(.mv (.tmp 29))⟩]))))))) (.seq (.drawT (.h 0 ⟨(some 30),none,(.mv (.tmp 0))⟩ (.h 1 ⟨(some 31),none,(.mv (.tmp 0))⟩ (.br 2 ⟨(some 32),none,(.nilc (.tmp 31))⟩ (.br 3 ⟨(some 33),none,(.fa 0 (.tmp 32))⟩ (.br 4 ⟨(some 34),none,(.fa 1 (.tmp 33))⟩ (.br 5 ⟨(some 35),none,(.load 1 false (.tmp 34))⟩ (.br 6 ⟨(some 36),none,(.load 2 true (.tmp 7))⟩ (.br 7 ⟨(some 37),none,(.bsl 2 [(.tmp 36)])⟩ (.br 8 ⟨(some 38),none,(.app 2 40 (.tmp 35) (.tmp 37))⟩ .done .nil) .nil) .nil) (.br 6 ⟨(some 36),none,(.load 2 true (.tmp 7))⟩ (.br 5 ⟨(some 35),none,(.load 1 false (.tmp 34))⟩ (.br 7 ⟨(some 37),none,(.bsl 2 [(.tmp 36)])⟩ (.br 8 ⟨(some 38),none,(.app 2 40 (.tmp 35) (.tmp 37))⟩ .done .nil) .nil) (.br 7 ⟨(some 37),none,(.bsl 2 [(.tmp 36)])⟩ (.br 5 ⟨(some 35),none,(.load 1 false (.tmp 34))⟩ (.br 8 ⟨(some 38),none,(.app 2 40 (.tmp 35) (.tmp 37))⟩ .done .nil) .nil) .nil)) .nil)) (.br 6 ⟨(some 36),none,(.load 2 true (.tmp 7))⟩ (.br 4 ⟨(some 34),none,(.fa 1 (.tmp 33))⟩ (.br 5 ⟨(some 35),none,(.load 1 false (.tmp 34))⟩ (.br 7 ⟨(some 37),none,(.bsl 2 [(.tmp 36)])⟩ (.br 8 ⟨(some 38),none,(.app 2 40 (.tmp 35) (.tmp 37))⟩ .done .nil) .nil) (.br 7 ⟨(some 37),none,(.bsl 2 [(.tmp 36)])⟩ (.br 5 ⟨(some 35),none,(.load 1 false (.tmp 34))⟩ (.br 8 ⟨(some 38),none,(.app 2 40 (.tmp 35) (.tmp 37))⟩ .done .nil) .nil) .nil)) (.br 7 ⟨(some 37),none,(.bsl 2 [(.tmp 36)])⟩ (.br 4 ⟨(some 34),none,(.fa 1 (.tmp 33))⟩ (.br 5 ⟨(some 35),none,(.load 1 false (.tmp 34))⟩ (.br 8 ⟨(some 38),none,(.app 2 40 (.tmp 35) (.tmp 37))⟩ .done .nil) .nil) .nil) .nil)) .nil)) (.br 6 ⟨(some 36),none,(.load 2 true (.tmp 7))⟩ (.br 3 ⟨(some 33),none,(.fa 0 (.tmp 32))⟩ (.br 4 ⟨(some 34),none,(.fa 1 (.tmp 33))⟩ (.br 5 ⟨(some 35),none,(.load 1 false (.tmp 34))⟩ (.br 7 ⟨(some 37),none,(.bsl 2 [(.tmp 36)])⟩ (.br 8 ⟨(some 38),none,(.app 2 40 (.tmp 35) (.tmp 37))⟩ .done .nil) .nil) (.br 7 ⟨(some 37),none,(.bsl 2 [(.tmp 36)])⟩ (.br 5 ⟨(some 35),none,(.load 1 false (.tmp 34))⟩ (.br 8 ⟨(some 38),none,(.app 2 40 (.tmp 35) (.tmp 37))⟩ .done .nil) .nil) .nil)) (.br 7 ⟨(some 37),none,(.bsl 2 [(.tmp 36)])⟩ (.br 4 ⟨(some 34),none,(.fa 1 (.tmp 33))⟩ (.br 5 ⟨(some 35),none,(.load 1 false (.tmp 34))⟩ (.br 8 ⟨(some 38),none,(.app 2 40 (.tmp 35) (.tmp 37))⟩ .done .nil) .nil) .nil) .nil)) (.br 7 ⟨(some 37),none,(.bsl 2 [(.tmp 36)])⟩ (.br 3 ⟨(some 33),none,(.fa 0 (.tmp 32))⟩ (.br 4 ⟨(some 34),none,(.fa 1 (.tmp 33))⟩ (.br 5 ⟨(some 35),none,(.load 1 false (.tmp 34))⟩ (.br 8 ⟨(some 38),none,(.app 2 40 (.tmp 35) (.tmp 37))⟩ .done .nil) .nil) .nil) .nil) .nil)) .nil)) (.br 6 ⟨(some 36),none,(.load 2 true (.tmp 7))⟩ (.br 2 ⟨(some 32),none,(.nilc (.tmp 31))⟩ (.br 3 ⟨(some 33),none,(.fa 0 (.tmp 32))⟩ (.br 4 ⟨(some 34),none,(.fa 1 (.tmp 33))⟩ (.br 5 ⟨(some 35),none,(.load 1 false (.tmp 34))⟩ (.br 7 ⟨(some 37),none,(.bsl 2 [(.tmp 36)])⟩ (.br 8 ⟨(some 38),none,(.app 2 40 (.tmp 35) (.tmp 37))⟩ .done .nil) .nil) (.br 7 ⟨(some 37),none,(.bsl 2 [(.tmp 36)])⟩ (.br 5 ⟨(some 35),none,(.load 1 false (.tmp 34))⟩ (.br 8 ⟨(some 38),none,(.app 2 40 (.tmp 35) (.tmp 37))⟩ .done .nil) .nil) .nil)) (.br 7 ⟨(some 37),none,(.bsl 2 [(.tmp 36)])⟩ (.br 4 ⟨(some 34),none,(.fa 1 (.tmp 33))⟩ (.br 5 ⟨(some 35),none,(.load 1 false (.tmp 34))⟩ (.br 8 ⟨(some 38),none,(.app 2 40 (.tmp 35) (.tmp 37))⟩ .done .nil) .nil) .nil) .nil)) (.br 7 ⟨(some 37),none,(.bsl 2 [(.tmp 36)])⟩ (.br 3 ⟨(some 33),none,(.fa 0 (.tmp 32))⟩ (.br 4 ⟨(some 34),none,(.fa 1 (.tmp 33))⟩ (.br 5 ⟨(some 35),none,(.load 1 false (.tmp 34))⟩ (.br 8 ⟨(some 38),none,(.app 2 40 (.tmp 35) (.tmp 37))⟩ .done .nil) .nil) .nil) .nil) .nil)) (.br 7 ⟨(some 37),none,(.bsl 2 [(.tmp 36)])⟩ (.br 2 ⟨(some 32),none,(.nilc (.tmp 31))⟩ (.br 3 ⟨(some 33),none,(.fa 0 (.tmp 32))⟩ (.br 4 ⟨(some 34),none,(.fa 1 (.tmp 33))⟩ (.br 5 ⟨(some 35),none,(.load 1 false (.tmp 34))⟩ (.br 8 ⟨(some 38),none,(.app 2 40 (.tmp 35) (.tmp 37))⟩ .done .nil) .nil) .nil) .nil) .nil) .nil)) .nil)))) [⟨(some 39),none,(.nilc (.tmp 30))⟩,⟨(some 40),none,(.fa 0 (.tmp 39))⟩,⟨(some 41),none,(.fa 1 (.tmp 40))⟩,⟨none,none,(.store 1 (.tmp 41) (.tmp 38))⟩]) (.seq (.ops [
  ⟨(some 42),none,(.mv (.tmp 0))⟩,
  ⟨(some 43),none,(.nilc (.tmp 42))⟩,
  ⟨(some 44),none,(.fa 0 (.tmp 43))⟩,
  ⟨(some 45),none,(.fa 1 (.tmp 44))⟩,
  ⟨(some 46),none,(.load 1 false (.tmp 45))⟩,
  ⟨(some 47),none,(.len (.tmp 46))⟩,
  ⟨(some 48),none,(.bin .sub (.tmp 47) (.const (.int .i64 1)))⟩,
  ⟨(some 6),none,(.asg (.tmp 48))⟩]) .ret)))))
theorem zH7 {a0 a1 a2 d:D} {cells cells':List D} (h:∀ b,code_impl_maker_tile.wp (CT Tryz.prog zA8) (yGz [(.t 6)] d 0 b cells') [.box (some b) cells,a1,a2,.undef,.undef,.undef,.undef,.undef,.undef,.undef,.undef,.undef,.undef,.undef,.undef,.undef,.undef,.undef,.undef,.undef,.undef,.undef,.undef,.undef,.undef,.undef,.undef,.undef,.undef,.undef,.undef,.undef,.undef,.undef,.undef,.undef,.undef,.undef,.undef,.undef,.undef,.undef,.undef,.undef,.undef,.undef,.undef,.undef,.undef]):ContractX Tryz.prog zA8 58 0 [a0,a1,a2] cells d cells' :=
  zDx (pt:=16384) zDy Tryz.func58 (fun us W=>by kernel_rfl) (c:=Tryz.f58.body.getD .skip) (ms:=[(mB 49 562949953392510)]) (ms':=[]) (by kernel_rfl) (by kernel_rfl) (by kernel_rfl) (by simp) h
set_option maxHeartbeats 8000000 in
theorem zQn (G:List Glue) (T:List Tile) (n:ByteArray) (ns:List ByteArray) (hm:okM G) (hT:T.length≤100000) (hG:G.length≤100000) (hn:ns.length≤1000):ContractX Tryz.prog zA8 58 0 [.undef,.v (.string n),.sl false 1 (ns.map rS)] (mkI G T) (.v (.int .i64 (T.length:Int))) (mkI G (T++[Tile.mk n (ns.map (zAy G))])):=by
  refine zH7 ?_;intro b;unfold code_impl_maker_tile mkI;rw [zQu];simp -implicitDefEqProofs (disch:=omega) only [go_sem,↓reduceIte ,List.length_map];refine zBz (by simp -implicitDefEqProofs (disch:=omega) only [go_sem,↓reduceIte];exact rfl) (fun i:Nat=>[(14,.v (.int .i64 (i:Nat))),(7,.box none [.v (.string n),.sl true 1 (((ns.take i).map (zAy G)).map rI)])]) (fun _=>by simp only [zBy,zBe,List.set_cons_zero,List.set_cons_succ];exact rfl) (fun i:Nat=>i≤ns.length) (fun i:Nat=>ns.length - i) (0) (zDf) (Nat.zero_le _) ?_;intro i hi;simp -implicitDefEqProofs (disch:=omega) only [go_sem,↓reduceIte ,List.length_map,Int.toNat_natCast,Int.ofNat_lt,Int.natCast_nonneg,List.getElem?_map,Option.map_some];refine zAo ?_ ?_ <;> intro hlt
  · have hlt:i < ns.length:=(by simpa using hlt);have e1:=List.getElem?_eq_getElem hlt;have hs:((ns.take i).map (zAy G)).map rI++[[.v (.int .i64 (zAy G ns[i]))]]=((ns.take (i+1)).map (zAy G)).map rI:=(by rw [← zQv hlt,List.map_append,List.map_append];rfl);have hk:(ns.take i).length=i:=(by rw [List.length_take];omega);rcases yFv hm ns[i] with hg | ⟨hg,h0⟩
    · simp -implicitDefEqProofs (disch:=omega) only [go_sem,↓reduceIte ,List.length_map,Int.toNat_natCast,Int.ofNat_lt,Int.natCast_nonneg,List.getElem?_map,Option.map_some,hlt,e1,rS,hg,hs,hk,wrN]
      repeat (refine And.intro (by omega) ?_)
      exact ⟨i+1,by omega,hlt,zDf⟩
    · rw [h0] at hs;simp -implicitDefEqProofs (disch:=omega) only [go_sem,↓reduceIte ,List.length_map,Int.toNat_natCast,Int.ofNat_lt,Int.natCast_nonneg,List.getElem?_map,Option.map_some,hlt,e1,rS,hg,hs,hk,wrN]
      repeat (refine And.intro (by omega) ?_)
      exact ⟨i+1,by omega,hlt,zDf⟩
  · obtain rfl:i=ns.length:=(by have:¬ i < ns.length:=(by simpa using hlt);omega);simp -implicitDefEqProofs (disch:=omega) only [go_sem,↓reduceIte ,List.take_length];apply yG3
    intro K hK;simp -implicitDefEqProofs (disch:=omega) only [go_sem,↓reduceIte ,List.take_length,List.length_map]
    repeat' (first | with_reducible exact hK | with_reducible refine And.intro ?_ ?_ | omega)
    have hw:IntKind.i64.wrap (((T.length+1:Nat):Int) - 1)=(T.length:Int):=(by rw [wrI (by omega) (by omega)];omega);simp -implicitDefEqProofs (disch:=omega) only [go_sem,↓reduceIte ,yDh,List.length_map,List.length_append,List.length_cons,List.length_nil,Nat.zero_add,hw]
def rowP (x:Int) (row:List Int):List Placed:=row.mapIdx (fun i t=>⟨⟨x+(i:Int),0⟩,t⟩)
theorem zZx (x:Int) {row:List Int} {i:Nat} (h:i < row.length):rowP x (row.take i)++[⟨⟨x+(i:Int),0⟩,row[i]⟩]=rowP x (row.take (i+1)):=by have hk:(row.take i).length=i:=(by rw [List.length_take];omega);unfold rowP;rw [← zQv h,List.mapIdx_append,hk];simp
theorem yEi (x:Int) (row:List Int):(rowP x row).length=row.length:=by simp [rowP]
def code_spec_l15Maker_glue:VCode:=(.seq (.ops [
  ⟨(some 6),none,(.asg (.const (.int .i64 0)))⟩]) (.seq (.ops [
  ⟨(some 8),none,(.mv (.tmp 0))⟩,
  ⟨(some 9),none,(.nilc (.tmp 8))⟩,
  ⟨(some 10),none,(.fa 0 (.tmp 9))⟩,
  ⟨(some 11),none,(.mv (.tmp 1))⟩,
  ⟨(some 12),none,(.callX 76 [(.tmp 10),(.tmp 11)])⟩,
  ⟨(some 7),none,(.asg (.tmp 12))⟩]) (.seq (.seq (.ops [
  ⟨(some 13),none,(.mv (.tmp 7))⟩,
  ⟨(some 14),none,(.bin .eql (.tmp 13) (.const (.int .i64 0)))⟩]) (.cond (.tmp 14) (.seq (.ops [
  ⟨(some 15),none,(.mv (.tmp 0))⟩,
  ⟨(some 16),none,(.mv (.tmp 0))⟩,
  ⟨(some 17),none,(.nilc (.tmp 16))⟩,
  ⟨(some 18),none,(.fa 0 (.tmp 17))⟩,
  ⟨(some 19),none,(.fa 0 (.tmp 18))⟩,
  ⟨(some 20),none,(.load 1 false (.tmp 19))⟩,
  ⟨(some 21),none,(.mv (.tmp 1))⟩,
  ⟨(some 22),none,(.mv (.tmp 2))⟩,
  ⟨(some 23),none,(.build [(.string ⟨⟨[]⟩⟩),(.int .i64 0)] [(0,1,(.tmp 21)),(1,1,(.tmp 22))])⟩,
  ⟨(some 24),none,(.bsl 2 [(.tmp 23)])⟩,
  ⟨(some 25),none,(.app 2 24 (.tmp 20) (.tmp 24))⟩,
  ⟨(some 26),none,(.nilc (.tmp 15))⟩,
  ⟨(some 27),none,(.fa 0 (.tmp 26))⟩,
  ⟨(some 28),none,(.fa 0 (.tmp 27))⟩,
  ⟨none,none,(.store 1 (.tmp 28) (.tmp 25))⟩]) (.ops [
  ⟨(some 29),none,(.mv (.tmp 0))⟩,
  ⟨(some 30),none,(.nilc (.tmp 29))⟩,
  ⟨(some 31),none,(.fa 0 (.tmp 30))⟩,
  ⟨(some 32),none,(.fa 0 (.tmp 31))⟩,
  ⟨(some 33),none,(.load 1 false (.tmp 32))⟩,
  ⟨(some 34),none,(.len (.tmp 33))⟩,
  ⟨(some 7),none,(.asg (.tmp 34))⟩])) .skip)) (.seq (.ops [
  ⟨(some 35),none,(.mv (.tmp 7))⟩,
  ⟨(some 6),none,(.asg (.tmp 35))⟩]) .ret))))
theorem zGr {a0 a1 a2 d:D} {cells cells':List D} (h:∀ b,code_spec_l15Maker_glue.wp (CT Tryz.prog zA8) (yGz [(.t 6)] d 0 b cells') [.box (some b) cells,a1,a2,.undef,.undef,.undef,.undef,.undef,.undef,.undef,.undef,.undef,.undef,.undef,.undef,.undef,.undef,.undef,.undef,.undef,.undef,.undef,.undef,.undef,.undef,.undef,.undef,.undef,.undef,.undef,.undef,.undef,.undef,.undef,.undef,.undef]):ContractX Tryz.prog zA8 41 0 [a0,a1,a2] cells d cells' :=
  zDx (pt:=0) zDy Tryz.func41 (fun us W=>by kernel_rfl) (c:=Tryz.f41.body.getD .skip) (ms:=[]) (ms':=[]) (by kernel_rfl) (by kernel_rfl) (by kernel_rfl) (by simp) h
def code_spec_l15Maker_side:VCode:=(.seq (.ops [
  ⟨(some 4),none,(.asg (.const (.int .i64 0)))⟩]) (.seq (.ops [
  ⟨(some 5),none,(.mv (.tmp 0))⟩,
  ⟨(some 6),none,(.nilc (.tmp 5))⟩,
  ⟨(some 7),none,(.fa 0 (.tmp 6))⟩,
  ⟨(some 8),none,(.mv (.tmp 1))⟩,
  ⟨(some 9),none,(.callX 76 [(.tmp 7),(.tmp 8)])⟩,
  ⟨(some 4),none,(.asg (.tmp 9))⟩]) .ret))
theorem zGq {a0 a1 d:D} (h:code_spec_l15Maker_side.wp (CT Tryz.prog zA8) (zD5 [(.t 4)] d) [a0,a1,.undef,.undef,.undef,.undef,.undef,.undef,.undef,.undef]):Contract Tryz.prog zA8 78 [a0,a1] d :=
  zAm (pt:=0) zDy Tryz.func78 (fun us W=>by kernel_rfl) (c:=Tryz.f78.body.getD .skip) (ms:=[]) (ms':=[]) (by kernel_rfl) (by kernel_rfl) (by kernel_rfl) h
def code_spec_l15Maker_tile:VCode:=(.seq (.ops [
  ⟨(some 12),none,(.asg (.const (.int .i64 0)))⟩]) (.seq (.ops [
  ⟨(some 14),none,(.mv (.tmp 0))⟩,
  ⟨(some 15),none,(.nilc (.tmp 14))⟩,
  ⟨(some 16),none,(.fa 0 (.tmp 15))⟩,
  ⟨(some 17),none,(.mv (.tmp 1))⟩,
  ⟨(some 18),none,(.callX 77 [(.tmp 16),(.tmp 17)])⟩,
  ⟨(some 13),none,(.asg (.tmp 18))⟩]) (.seq (.seq (.ops [
  ⟨(some 19),none,(.mv (.tmp 13))⟩,
  ⟨(some 20),none,(.bin .lss (.tmp 19) (.const (.int .i64 0)))⟩]) (.cond (.tmp 20) (.seq (.drawW (mB 44 17592183947264) (mB 43 8324921688064) [⟨1,(mB 44 17592183947264),[],⟨(some 22),none,(.mv (.tmp 0))⟩⟩,⟨2,(mB 44 17592179752960),[],⟨(some 23),none,(.nilc (.tmp 22))⟩⟩,⟨3,(mB 44 17592171364352),[],⟨(some 24),none,(.fa 0 (.tmp 23))⟩⟩,⟨4,(mB 44 17592154587136),[],⟨(some 25),none,(.fa 1 (.tmp 24))⟩⟩,⟨5,(mB 44 17592121032704),[],⟨(some 26),none,(.load 1 false (.tmp 25))⟩⟩,⟨6,(mB 44 17592183947264),[],⟨(some 27),none,(.mv (.tmp 1))⟩⟩,⟨7,(mB 44 17592183947264),[],⟨(some 28),none,(.mv (.tmp 0))⟩⟩,⟨8,(mB 44 17592183947264),[],⟨(some 29),none,(.mv (.tmp 2))⟩⟩,⟨9,(mB 44 17591378640896),[],⟨(some 30),none,(.call 78 [(.tmp 28),(.tmp 29)])⟩⟩,⟨10,(mB 44 17592183947264),[],⟨(some 31),none,(.mv (.tmp 0))⟩⟩,⟨11,(mB 44 17592183947264),[],⟨(some 32),none,(.mv (.tmp 3))⟩⟩,⟨12,(mB 44 17583862448128),[],⟨(some 33),none,(.call 78 [(.tmp 31),(.tmp 32)])⟩⟩,⟨13,(mB 44 17592183947264),[],⟨(some 34),none,(.mv (.tmp 0))⟩⟩,⟨14,(mB 44 17592183947264),[],⟨(some 35),none,(.mv (.tmp 4))⟩⟩,⟨15,(mB 44 17523732905984),[],⟨(some 36),none,(.call 78 [(.tmp 34),(.tmp 35)])⟩⟩,⟨16,(mB 44 17592183947264),[],⟨(some 37),none,(.mv (.tmp 0))⟩⟩,⟨17,(mB 44 17592183947264),[],⟨(some 38),none,(.mv (.tmp 5))⟩⟩,⟨18,(mB 44 17042696568832),[],⟨(some 39),none,(.call 78 [(.tmp 37),(.tmp 38)])⟩⟩,⟨19,(mB 44 16492940754944),(mB 40 628138967040),⟨(some 40),none,(.bslN 1 [(.tmp 30),(.tmp 33),(.tmp 36),(.tmp 39)])⟩⟩,⟨20,(mB 44 16021433876480),(mB 41 1099645845504),⟨(some 41),none,(.build [(.string ⟨⟨[]⟩⟩),(.slice none 0 0)] [(0,1,(.tmp 27)),(1,1,(.tmp 40))])⟩⟩,⟨21,(mB 44 14922056466432),(mB 42 2199023255552),⟨(some 42),none,(.bslN 2 [(.tmp 41)])⟩⟩] ⟨22,(mB 44 12722903187456),(mB 43 4398113619968),⟨(some 43),none,(.app 2 40 (.tmp 26) (.tmp 42))⟩⟩ [⟨0,(mB 44 17592183947264),[],⟨(some 21),none,(.mv (.tmp 0))⟩⟩] [⟨(some 44),none,(.nilc (.tmp 21))⟩,⟨(some 45),none,(.fa 0 (.tmp 44))⟩,⟨(some 46),none,(.fa 1 (.tmp 45))⟩,⟨none,none,(.store 1 (.tmp 46) (.tmp 43))⟩]) (.ops [
  ⟨(some 47),none,(.mv (.tmp 0))⟩,
  ⟨(some 48),none,(.nilc (.tmp 47))⟩,
  ⟨(some 49),none,(.fa 0 (.tmp 48))⟩,
  ⟨(some 50),none,(.fa 1 (.tmp 49))⟩,
  ⟨(some 51),none,(.load 1 false (.tmp 50))⟩,
  ⟨(some 52),none,(.len (.tmp 51))⟩,
  ⟨(some 53),none,(.bin .sub (.tmp 52) (.const (.int .i64 1)))⟩,
  ⟨(some 13),none,(.asg (.tmp 53))⟩])) .skip)) (.seq (.ops [
  ⟨(some 54),none,(.mv (.tmp 13))⟩,
  ⟨(some 12),none,(.asg (.tmp 54))⟩]) .ret))))
theorem zGp {a0 a1 a2 a3 a4 a5 d:D} {cells cells':List D} (h:∀ b,code_spec_l15Maker_tile.wp (CT Tryz.prog zA8) (yGz [(.t 12)] d 0 b cells') [.box (some b) cells,a1,a2,a3,a4,a5,.undef,.undef,.undef,.undef,.undef,.undef,.undef,.undef,.undef,.undef,.undef,.undef,.undef,.undef,.undef,.undef,.undef,.undef,.undef,.undef,.undef,.undef,.undef,.undef,.undef,.undef,.undef,.undef,.undef,.undef,.undef,.undef,.undef,.undef,.undef,.undef,.undef,.undef,.undef,.undef,.undef,.undef,.undef,.undef,.undef,.undef,.undef,.undef,.undef]):ContractX Tryz.prog zA8 44 0 [a0,a1,a2,a3,a4,a5] cells d cells' :=
  zDx (pt:=0) zDy Tryz.func44 (fun us W=>by kernel_rfl) (c:=Tryz.f44.body.getD .skip) (ms:=[]) (ms':=[]) (by kernel_rfl) (by kernel_rfl) (by kernel_rfl) (by simp) h
set_option maxHeartbeats 1000000 in
theorem zCx (G:List Glue) (T:List Tile) (n:ByteArray) (k:Int) (hl:G.length≤100000) (hf:fresh G n):ContractX Tryz.prog zA8 41 0 [.undef,.v (.string n),.v (.int .i64 k)] (mkS G T) (.v (.int .i64 ((G.length:Int)+1))) (mkS (G++[Glue.mk n k]) T):=by refine zGr ?_;intro b;unfold code_spec_l15Maker_glue mkS;have hi:=zRr hf;have hg:=zQq ⟨G,T⟩ n (by simp only;omega);simp only [TileSet.td_d,hi] at hg;rw [show (-1:Int)+1=0 from rfl] at hg;have d0:decide ((0:Int)=0)=true:=rfl;rw [zRp];simp -implicitDefEqProofs (disch:=omega) only [go_sem,↓reduceIte];refine zAk (hg) (by simp -implicitDefEqProofs (disch:=omega) only [go_sem,↓reduceIte,deep,TD.rows,zAe,zAc,zAf,zAb,zAd,zAa,d0,List.length_map,List.length_append,Int.natCast_add,Int.cast_ofNat_Int];exact rfl) ?_;simp -implicitDefEqProofs (disch:=omega) only [go_sem,↓reduceIte ,d0,List.length_map,List.length_append,Int.natCast_add,Int.cast_ofNat_Int];omega
theorem zFa (G:List Glue) (T:List Tile) (n:ByteArray) (hl:G.length≤100000):Contract Tryz.prog zA8 78 [.iptr [.sl false 2 (G.map (Glue.td.d false)),.sl false 2 (T.map (Tile.td.d false))] 0,.v (.string n)] (.v (.int .i64 (zAy G n))):=by refine zGq ?_;unfold code_spec_l15Maker_side;have hg:=zQq ⟨G,T⟩ n (by simp only;omega);simp only [TileSet.td_d] at hg;simp -implicitDefEqProofs (disch:=omega) only [go_sem,↓reduceIte];refine zAk (hg) (by simp -implicitDefEqProofs (disch:=omega) only [go_sem,↓reduceIte,deep,TD.rows,zAe,zAc,zAf,zAb,zAd,zAa];exact rfl) ?_;simp -implicitDefEqProofs (disch:=omega) only [go_sem,↓reduceIte];rfl
set_option maxHeartbeats 2000000 in
theorem zDv (G:List Glue) (T:List Tile) (n a b c d:ByteArray) (hT:T.length≤100000) (hG:G.length≤100000) (hf:zJi T n):ContractX Tryz.prog zA8 44 0 [.undef,.v (.string n),.v (.string a),.v (.string b),.v (.string c),.v (.string d)] (mkS G T) (.v (.int .i64 (T.length:Int))) (mkS G (T++[Tile.mk n [zAy G a,zAy G b,zAy G c,zAy G d]])):=by
  refine zGp ?_;intro bb;unfold code_spec_l15Maker_tile mkS;have hi:=zXo hf;have hg:=zYp ⟨G,T⟩ n (by simp only;omega);simp only [TileSet.td_d,hi] at hg;have hw:IntKind.i64.wrap (((T.length:Int)+1) - 1)=(T.length:Int):=by rw [wrI (by omega) (by omega)];omega
  rw [zQu];simp -implicitDefEqProofs (disch:=omega) only [go_sem,↓reduceIte];have d0:decide ((-1:Int) < 0)=true:=rfl;refine zAk (hg) (by simp -implicitDefEqProofs (disch:=omega) only [go_sem,↓reduceIte,deep,TD.rows,zAe,zAc,zAf,zAb,zAd,zAa,d0,List.length_map,List.length_append,Int.natCast_add,Int.cast_ofNat_Int];exact rfl) ?_;simp -implicitDefEqProofs (disch:=omega) only [go_sem,↓reduceIte ,d0,List.length_map,List.length_append,Int.natCast_add,Int.cast_ofNat_Int];refine zAx (zFa G T a hG) (by simp -implicitDefEqProofs (disch:=omega) only [go_sem,↓reduceIte,deep,TD.rows,zAe,zAc,zAf,zAb,zAd,zAa,List.length_map,List.length_append,Int.natCast_add,Int.cast_ofNat_Int];exact rfl) ?_;simp -implicitDefEqProofs (disch:=omega) only [go_sem,↓reduceIte ,List.length_map,List.length_append,Int.natCast_add,Int.cast_ofNat_Int];refine zAx (zFa G T b hG) (by simp -implicitDefEqProofs (disch:=omega) only [go_sem,↓reduceIte,deep,TD.rows,zAe,zAc,zAf,zAb,zAd,zAa,List.length_map,List.length_append,Int.natCast_add,Int.cast_ofNat_Int];exact rfl) ?_;simp -implicitDefEqProofs (disch:=omega) only [go_sem,↓reduceIte ,List.length_map,List.length_append,Int.natCast_add,Int.cast_ofNat_Int];refine zAx (zFa G T c hG) (by simp -implicitDefEqProofs (disch:=omega) only [go_sem,↓reduceIte,deep,TD.rows,zAe,zAc,zAf,zAb,zAd,zAa,List.length_map,List.length_append,Int.natCast_add,Int.cast_ofNat_Int];exact rfl) ?_;simp -implicitDefEqProofs (disch:=omega) only [go_sem,↓reduceIte ,List.length_map,List.length_append,Int.natCast_add,Int.cast_ofNat_Int];refine zAx (zFa G T d hG) (by simp -implicitDefEqProofs (disch:=omega) only [go_sem,↓reduceIte,deep,TD.rows,zAe,zAc,zAf,zAb,zAd,zAa,List.length_map,List.length_append,Int.natCast_add,Int.cast_ofNat_Int,hw];exact rfl) ?_;simp -implicitDefEqProofs (disch:=omega) only [go_sem,↓reduceIte ,List.length_map,List.length_append,Int.natCast_add,Int.cast_ofNat_Int,hw];omega
def code_spec_l15Maker_system:VCode:=(.seq (.ops [
  ⟨(some 6),none,(.alloc [(.slice none 0 0),(.slice none 0 0),(.slice none 0 0),(.int .i64 0)])⟩]) (.seq (.ops [
  ⟨(some 9),none,(.mv (.tmp 0))⟩,
  ⟨(some 10),none,(.nilc (.tmp 9))⟩,
  ⟨(some 11),none,(.fa 0 (.tmp 10))⟩,
  ⟨(some 12),none,(.load 2 true (.tmp 11))⟩,
  ⟨(some 13),none,(.build [(.slice none 0 0),(.slice none 0 0),(.slice none 0 0),(.int .i64 0)] [(0,2,(.tmp 12)),(3,1,(.const (.int .i64 2)))])⟩,
  ⟨(some 7),none,(.alloc [(.slice none 0 0),(.slice none 0 0),(.slice none 0 0),(.int .i64 0)])⟩,
  ⟨none,none,(.store 4 (.tmp 7) (.tmp 13))⟩]) (.seq (.seq (.ops [
  ⟨(some 8),none,(.asg (.const (.int .i64 0)))⟩]) (.block 0 (.loop (mB 37 137438953016) (.seq (.seq (.ops [
  ⟨(some 14),none,(.mv (.tmp 8))⟩,
  ⟨(some 15),none,(.mv (.tmp 2))⟩,
  ⟨(some 16),none,(.len (.tmp 15))⟩,
  ⟨(some 17),none,(.bin .lss (.tmp 14) (.tmp 16))⟩]) (.cond (.tmp 17) .skip (.exit 0))) (.seq (.block 1 (.draw (mB 33 8588886016) (mB 32 3321888768) [⟨0,(mB 33 8588886016),[],⟨(some 20),none,(.fa 2 (.tmp 7))⟩⟩,⟨1,(mB 33 8587837440),[],⟨(some 21),none,(.fa 0 (.tmp 20))⟩⟩,⟨2,(mB 33 8585740288),[],⟨(some 22),none,(.load 1 false (.tmp 21))⟩⟩,⟨3,(mB 33 8588886016),[],⟨(some 23),none,(.mv (.tmp 1))⟩⟩,⟨4,(mB 33 8588886016),[],⟨(some 24),none,(.mv (.tmp 8))⟩⟩,⟨5,(mB 33 8563720192),[],⟨(some 25),none,(.bin .add (.tmp 23) (.tmp 24))⟩⟩,⟨6,(mB 33 8530165760),(mB 26 33554432),⟨(some 26),none,(.build [(.int .i64 0),(.int .i64 0)] [(0,1,(.tmp 25))])⟩⟩,⟨7,(mB 33 8588886016),[],⟨(some 27),none,(.mv (.tmp 2))⟩⟩,⟨8,(mB 33 8588886016),[],⟨(some 28),none,(.mv (.tmp 8))⟩⟩,⟨9,(mB 33 8186232832),[],⟨(some 29),none,(.ia 1 (.tmp 27) (.tmp 28))⟩⟩,⟨10,(mB 33 7649361920),[],⟨(some 30),none,(.load 1 false (.tmp 29))⟩⟩,⟨11,(mB 33 6483345408),(mB 31 1140850688),⟨(some 31),none,(.build [(.int .i64 0),(.int .i64 0),(.int .i64 0)] [(0,2,(.tmp 26)),(2,1,(.tmp 30))])⟩⟩,⟨12,(mB 33 5476712448),(mB 32 2147483648),⟨(some 32),none,(.bslN 3 [(.tmp 31)])⟩⟩] [⟨(some 33),none,(.app 3 24 (.tmp 22) (.tmp 32))⟩,⟨(some 34),none,(.fa 2 (.tmp 7))⟩,⟨(some 35),none,(.fa 0 (.tmp 34))⟩,⟨none,none,(.store 1 (.tmp 35) (.tmp 33))⟩])) (.ops [
  ⟨(some 18),none,(.mv (.tmp 8))⟩,
  ⟨(some 19),none,(.bin .add (.tmp 18) (.const (.int .i64 1)))⟩,
  ⟨(some 8),none,(.asg (.tmp 19))⟩])))))) (.seq (.ops [
  ⟨(some 36),none,(.load 4 true (.tmp 7))⟩,
  ⟨none,none,(.store 4 (.tmp 6) (.tmp 36))⟩]) .ret))))
theorem zFx {a0 a1 a2 d:D} {cells cells':List D} (h:∀ b,code_spec_l15Maker_system.wp (CT Tryz.prog zA8) (yGz [(.c 6 4 true)] d 0 b cells') [.box (some b) cells,a1,a2,.undef,.undef,.undef,.undef,.undef,.undef,.undef,.undef,.undef,.undef,.undef,.undef,.undef,.undef,.undef,.undef,.undef,.undef,.undef,.undef,.undef,.undef,.undef,.undef,.undef,.undef,.undef,.undef,.undef,.undef,.undef,.undef,.undef,.undef]):ContractX Tryz.prog zA8 46 0 [a0,a1,a2] cells d cells' :=
  zDx (pt:=0) zDy Tryz.func46 (fun us W=>by kernel_rfl) (c:=Tryz.f46.body.getD .skip) (ms:=[(mB 37 137438953016)]) (ms':=[]) (by kernel_rfl) (by kernel_rfl) (by kernel_rfl) (by simp) h
set_option maxHeartbeats 2000000 in
theorem zYl (G:List Glue) (T:List Tile) (x:Int) (row:List Int) (hx : -100≤x∧x≤100) (hr:row.length≤1000):ContractX Tryz.prog zA8 46 0 [.undef,.v (.int .i64 x),.sl false 1 (row.map rI)] (mkS G T) (.agg (System.td.d true ⟨⟨G,T⟩,⟨rowP x row⟩,2⟩)) [.undef,.undef]:=by
  refine zFx ?_;intro bb;rw [System.td_d];unfold code_spec_l15Maker_system mkS;simp -implicitDefEqProofs (disch:=omega) only [go_sem,↓reduceIte];refine zBz (by simp -implicitDefEqProofs (disch:=omega) only [go_sem,↓reduceIte];exact rfl) (fun i:Nat=>[(8,.v (.int .i64 (i:Nat))),(7,.box none [.ref 0 [(0,0)],.ref 0 [(0,1)],.sl true 3 ((rowP x (row.take i)).map (Placed.td.d true)),.v (.int .i64 2)])]) (fun _=>by simp only [zBy,zBe,List.set_cons_zero,List.set_cons_succ];exact rfl) (fun i:Nat=>i≤row.length) (fun i:Nat=>row.length - i) (0) (zDf) (Nat.zero_le _) ?_;intro i hi;simp -implicitDefEqProofs (disch:=omega) only [go_sem,↓reduceIte ,List.length_map,Int.toNat_natCast,Int.ofNat_lt,Int.natCast_nonneg,List.getElem?_map,Option.map_some];refine zAo ?_ ?_ <;> intro hlt
  · have hlt:i < row.length:=(by simpa using hlt);have e1:=List.getElem?_eq_getElem hlt;have hs:(rowP x (row.take i)).map (Placed.td.d true)++[[.v (.int .i64 (x+(i:Int))),.v (.int .i64 0),.v (.int .i64 row[i])]]=(rowP x (row.take (i+1))).map (Placed.td.d true):=(by rw [← zZx x hlt,List.map_append];rfl);have hk:(rowP x (row.take i)).length=i:=(by rw [yEi,List.length_take];omega);have hw:IntKind.i64.wrap (x+(i:Int))=x+(i:Int):=wrI (by omega) (by omega);simp -implicitDefEqProofs (disch:=omega) only [go_sem,↓reduceIte ,List.length_map,Int.toNat_natCast,Int.ofNat_lt,Int.natCast_nonneg,List.getElem?_map,Option.map_some,hlt,e1,rI,hs,hk,hw,wrN]
    repeat (refine And.intro (by omega) ?_)
    exact ⟨i+1,by omega,hlt,zDf⟩
  · obtain rfl:i=row.length:=(by have:¬ i < row.length:=(by simpa using hlt);omega);simp -implicitDefEqProofs (disch:=omega) only [go_sem,↓reduceIte ,List.take_length]
abbrev nm1 (p:List UInt8) (n:Nat):ByteArray:=nm [(p,n)] []
theorem zA7 {n:Nat} (h:n≤1000000):InK .i64 (n:Int):=zPv (by omega)
theorem zEc (G:List Glue) (T:List Tile) (n a b c d:ByteArray) (hm:okM G) (hT:T.length≤100000) (hG:G.length≤100000):ContractX Tryz.prog zA8 58 0 [.undef,.v (.string n),.sl false 1 [[.v (.string a)],[.v (.string b)],[.v (.string c)],[.v (.string d)]]] (mkI G T) (.v (.int .i64 (T.length:Int))) (mkI G (T++[Tile.mk n [zAy G a,zAy G b,zAy G c,zAy G d]])) :=
  zQn G T n [a,b,c,d] hm hT hG (by simp)
def code_impl_numbered:VCode:=(.seq (.ops [
  ⟨(some 4),none,(.asg (.const (.string ⟨⟨[]⟩⟩)))⟩]) (.seq (.ops [
  ⟨(some 5),none,(.mv (.tmp 0))⟩,
  ⟨(some 6),none,(.mv (.tmp 1))⟩,
  ⟨(some 7),none,(.callX 88 [(.tmp 6)])⟩,
  ⟨(some 8),none,(.bin .add (.tmp 5) (.tmp 7))⟩,
  ⟨(some 4),none,(.asg (.tmp 8))⟩]) .ret))
theorem zKj {a0 a1 d:D} (h:code_impl_numbered.wp (CT Tryz.prog zA8) (zD5 [(.t 4)] d) [a0,a1,.undef,.undef,.undef,.undef,.undef,.undef,.undef]):Contract Tryz.prog zA8 59 [a0,a1] d :=
  zAm (pt:=0) zDy Tryz.func59 (fun us W=>by kernel_rfl) (c:=Tryz.f59.body.getD .skip) (ms:=[]) (ms':=[]) (by kernel_rfl) (by kernel_rfl) (by kernel_rfl) h
theorem zBa (p:List UInt8) (n:Nat) (hp:p.length≤1000) (hn:n≤1000000):Contract Tryz.prog zA8 59 [.v (.string ⟨⟨p⟩⟩),.v (.int .i64 (n:Int))] (.v (.string (nm1 p n))):=by refine zKj ?_;unfold code_impl_numbered;have hs:=szN (k:=p.length) (n:=n) (by omega) (by omega);simp -implicitDefEqProofs (disch:=omega) only [go_sem,↓reduceIte];refine zAk (zCn (n:Int) (zA7 hn)) (by simp -implicitDefEqProofs (disch:=omega) only [go_sem,↓reduceIte,deep,TD.rows,zAe,zAc,zAf,zAb,zAd,zAa,zCw,zC3,zBm,hs];exact rfl) ?_;simp -implicitDefEqProofs (disch:=omega) only [go_sem,↓reduceIte ,zCw,zC3,zBm,hs]
end Go.Proofs.YteaicicfbpehbaaGreatDoor
