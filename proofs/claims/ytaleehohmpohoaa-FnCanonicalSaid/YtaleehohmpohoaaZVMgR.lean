/- Laws that the proof stands on. -/
import Derived.Test.YtaleehohmpohoaaZg30
import Derived.Test.YtaleehohmpohoaaZg27
set_option linter.all false
namespace Go.V
open Go.RowKit
theorem zPo {P:Program}{G:World→(Nat→Prop)→Prop}{s:List D}{K:D→List D→Prop}{f:FuncId}{args:List Operand}{i r:Nat}{x:Operand}{tag:Option Nat}{cells:List D}{q:zBr}{sz:Nat}{rows:List (List D)}{res d' dnew:D}{args' A:List D}(hC:ContractL P G f i args' (.sl true sz rows) res d')(hx:args[i]?=some x)(hs:s[r]?=some (.box tag cells))(hq:q≠[])(hlk:lk s x=.ref r q)(htr:zAf (.box tag cells) q=some (.sl true sz rows))(hnew:setAt ((D.box tag cells).prune (fun _=>false)) q d'=dnew)(hb:dnew.boxy=true)
    (hA:(((args.map fun x=>raw s x).set i .undef).map (D.prune (zAd r))).map (deep ((zAc (zAd r) s).set r .undef) 8)=A) (hle:leL A args') (hn:res.noImm=true∧d'.noImm=true) (hK:K res ((zAc (zF7 r) s).set r dnew)):zAh (CT P G) s (.callX f args) K:=by
  refine .inr (.inr (.inl ⟨i,r,x,false,.sl true sz rows,d',dnew,d',res,args',hx,?_,.inl ⟨_,hs,rfl⟩,hA▸hle,hC,.inl ⟨rfl,hn.1,hn.2⟩,.inr ⟨⟨_,hs,rfl⟩,hb,hK⟩⟩));unfold yHu;rw [hs];exact .inr (.inr (.inl ⟨rfl,q,sz,rows,rfl,hq,hlk,rfl,htr,hnew.symm⟩))
end Go.V
namespace Go.Proofs.Ytaleehohmpohoaa
open Go.RowKit Go.V
attribute [local go_sem] xBh xBb xBc xA8 xA6 xBl xBk xBy xBm xC7 xBt xCi xBn xCl xB6 xCg xBi xBp xBw xCn Value.oneCell' xCp xCu xCv xC0 xC1 xBr xB7 and_true true_and beq_self_eq_true xBa if_true if_false xB2 Nat.reduceAdd Nat.reduceMul Nat.reduceLeDiff xBj xB5 xB0 not_true_eq_false not_false_eq_true ne_eq reduceCtorEq xCf bne_self_eq_false Nat.reduceEqDiff List.isPrefixOf xB9 xCm xCq xC5 xCx decide_true decide_false Nat.reduceBEq Nat.reduceBNe xBv xBz exists_eq_left' exists_eq_left xAv or_false or_true true_or false_or xAx xCk mB Nat.reduceMod Nat.reduceDiv
set_option maxRecDepth 100000
def code_spec_l24M_equal:VCode:=(.seq (.ops [
  ⟨some 6,none,.asg (.const (.bool false))⟩]) (.seq (.ops [
  ⟨some 13,none,.mv (.tmp 0)⟩,
  ⟨some 14,none,.nilc (.tmp 13)⟩,
  ⟨some 15,none,.fa 0 (.tmp 14)⟩,
  ⟨some 16,none,.fa 2 (.tmp 15)⟩,
  ⟨some 17,none,.load 1 false (.tmp 16)⟩,
  ⟨some 18,none,.mv (.tmp 1)⟩,
  ⟨some 19,none,.ia 5 (.tmp 17) (.tmp 18)⟩,
  ⟨some 20,none,.load 5 true (.tmp 19)⟩,
  ⟨some 7,none,.alloc [(.int .i64 0),(.int .i64 0),(.int .i64 0),(.int .i64 0),(.int .i64 0)]⟩,
  ⟨none,none,.store 5 (.tmp 7) (.tmp 20)⟩]) (.seq (.ops [
  ⟨some 21,none,.mv (.tmp 0)⟩,
  ⟨some 22,none,.nilc (.tmp 21)⟩,
  ⟨some 23,none,.fa 0 (.tmp 22)⟩,
  ⟨some 24,none,.fa 2 (.tmp 23)⟩,
  ⟨some 25,none,.load 1 false (.tmp 24)⟩,
  ⟨some 26,none,.mv (.tmp 2)⟩,
  ⟨some 27,none,.ia 5 (.tmp 25) (.tmp 26)⟩,
  ⟨some 28,none,.load 5 true (.tmp 27)⟩,
  ⟨some 8,none,.alloc [(.int .i64 0),(.int .i64 0),(.int .i64 0),(.int .i64 0),(.int .i64 0)]⟩,
  ⟨none,none,.store 5 (.tmp 8) (.tmp 28)⟩]) (.seq (.draw (mB 38 274341036032) [] [⟨0,mB 38 274341036032,[],⟨some 29,none,.mv (.tmp 0)⟩⟩,⟨1,mB 38 274341036032,[],⟨some 30,none,.mv (.tmp 0)⟩⟩,⟨2,mB 38 273267294208,[],⟨some 31,none,.nilc (.tmp 30)⟩⟩,⟨3,mB 38 271119810560,[],⟨some 32,none,.fa 3 (.tmp 31)⟩⟩,⟨4,mB 38 266824843264,[],⟨some 33,none,.load 1 false (.tmp 32)⟩⟩,⟨5,mB 38 274341036032,[],⟨some 34,none,.fa 1 (.tmp 7)⟩⟩,⟨6,mB 38 257161166848,[],⟨some 35,none,.load 1 false (.tmp 34)⟩⟩,⟨7,mB 38 274341036032,[],⟨some 36,none,.fa 1 (.tmp 8)⟩⟩,⟨8,mB 38 205621559296,[],⟨some 37,none,.load 1 false (.tmp 36)⟩⟩] [⟨some 38,none,.callX 102 [(.tmp 29),(.tmp 33),(.tmp 35),(.tmp 37)]⟩,⟨some 9,none,.asg (.tmp 38)⟩]) (.seq (.draw (mB 48 0xff8000000000) [] [⟨0,mB 48 0xff8000000000,[],⟨some 39,none,.mv (.tmp 0)⟩⟩,⟨1,mB 48 0xff8000000000,[],⟨some 40,none,.mv (.tmp 0)⟩⟩,⟨2,mB 48 0xfe8000000000,[],⟨some 41,none,.nilc (.tmp 40)⟩⟩,⟨3,mB 48 0xfc8000000000,[],⟨some 42,none,.fa 3 (.tmp 41)⟩⟩,⟨4,mB 48 0xf88000000000,[],⟨some 43,none,.load 1 false (.tmp 42)⟩⟩,⟨5,mB 48 0xff8000000000,[],⟨some 44,none,.fa 3 (.tmp 7)⟩⟩,⟨6,mB 48 0xef8000000000,[],⟨some 45,none,.load 1 false (.tmp 44)⟩⟩,⟨7,mB 48 0xff8000000000,[],⟨some 46,none,.fa 3 (.tmp 8)⟩⟩,⟨8,mB 48 0xbf8000000000,[],⟨some 47,none,.load 1 false (.tmp 46)⟩⟩] [⟨some 48,none,.callX 102 [(.tmp 39),(.tmp 43),(.tmp 45),(.tmp 47)]⟩,⟨some 10,none,.asg (.tmp 48)⟩]) (.seq (.draw (mB 58 0x3fe000000000000) [] [⟨0,mB 58 0x3fe000000000000,[],⟨some 49,none,.mv (.tmp 0)⟩⟩,⟨1,mB 58 0x3fe000000000000,[],⟨some 50,none,.mv (.tmp 0)⟩⟩,⟨2,mB 58 0x3fa000000000000,[],⟨some 51,none,.nilc (.tmp 50)⟩⟩,⟨3,mB 58 0x3f2000000000000,[],⟨some 52,none,.fa 4 (.tmp 51)⟩⟩,⟨4,mB 58 0x3e2000000000000,[],⟨some 53,none,.load 1 false (.tmp 52)⟩⟩,⟨5,mB 58 0x3fe000000000000,[],⟨some 54,none,.fa 2 (.tmp 7)⟩⟩,⟨6,mB 58 0x3be000000000000,[],⟨some 55,none,.load 1 false (.tmp 54)⟩⟩,⟨7,mB 58 0x3fe000000000000,[],⟨some 56,none,.fa 2 (.tmp 8)⟩⟩,⟨8,mB 58 0x2fe000000000000,[],⟨some 57,none,.load 1 false (.tmp 56)⟩⟩] [⟨some 58,none,.callX 102 [(.tmp 49),(.tmp 53),(.tmp 55),(.tmp 57)]⟩,⟨some 11,none,.asg (.tmp 58)⟩]) (.seq (.draw (mB 68 0xff800000000000000) [] [⟨0,mB 68 0xff800000000000000,[],⟨some 59,none,.mv (.tmp 0)⟩⟩,⟨1,mB 68 0xff800000000000000,[],⟨some 60,none,.mv (.tmp 0)⟩⟩,⟨2,mB 68 0xfe800000000000000,[],⟨some 61,none,.nilc (.tmp 60)⟩⟩,⟨3,mB 68 0xfc800000000000000,[],⟨some 62,none,.fa 4 (.tmp 61)⟩⟩,⟨4,mB 68 0xf8800000000000000,[],⟨some 63,none,.load 1 false (.tmp 62)⟩⟩,⟨5,mB 68 0xff800000000000000,[],⟨some 64,none,.fa 4 (.tmp 7)⟩⟩,⟨6,mB 68 0xef800000000000000,[],⟨some 65,none,.load 1 false (.tmp 64)⟩⟩,⟨7,mB 68 0xff800000000000000,[],⟨some 66,none,.fa 4 (.tmp 8)⟩⟩,⟨8,mB 68 0xbf800000000000000,[],⟨some 67,none,.load 1 false (.tmp 66)⟩⟩] [⟨some 68,none,.callX 102 [(.tmp 59),(.tmp 63),(.tmp 65),(.tmp 67)]⟩,⟨some 12,none,.asg (.tmp 68)⟩]) (.seq (.ops [
  ⟨some 69,none,.mv (.tmp 9)⟩,
  ⟨some 70,none,.mv (.tmp 69)⟩,
  ⟨some 71,some (70,false),.mv (.tmp 10)⟩,
  ⟨some 72,none,.pick (.tmp 70) (.const (.bool true)) (.tmp 71)⟩,
  ⟨some 73,none,.mv (.tmp 72)⟩,
  ⟨some 74,some (73,false),.mv (.tmp 11)⟩,
  ⟨some 75,none,.pick (.tmp 73) (.const (.bool true)) (.tmp 74)⟩,
  ⟨some 76,none,.mv (.tmp 75)⟩,
  ⟨some 77,some (76,false),.mv (.tmp 12)⟩,
  ⟨some 78,none,.pick (.tmp 76) (.const (.bool true)) (.tmp 77)⟩,
  ⟨some 6,none,.asg (.tmp 78)⟩]) .ret))))))))
theorem zL3 {a0 a1 a2 d:D}{cells cells':List D}(h:∀ b,code_spec_l24M_equal.wp (CT Try.prog NoG) (yOu [(.t 6)] d 0 b cells') [.box (some b) cells,a1,a2,.undef,.undef,.undef,.undef,.undef,.undef,.undef,.undef,.undef,.undef,.undef,.undef,.undef,.undef,.undef,.undef,.undef,.undef,.undef,.undef,.undef,.undef,.undef,.undef,.undef,.undef,.undef,.undef,.undef,.undef,.undef,.undef,.undef,.undef,.undef,.undef,.undef,.undef,.undef,.undef,.undef,.undef,.undef,.undef,.undef,.undef,.undef,.undef,.undef,.undef,.undef,.undef,.undef,.undef,.undef,.undef,.undef,.undef,.undef,.undef,.undef,.undef,.undef,.undef,.undef,.undef,.undef,.undef,.undef,.undef,.undef,.undef,.undef,.undef,.undef,.undef]):ContractX Try.prog NoG 83 0 [a0,a1,a2] cells d cells' :=
  zE7 (pt:=0) noG Try.func83 (fun us W=>by kernel_rfl) (c:=Try.f83.body.getD .skip) (ms:=[]) (ms':=[]) (by kernel_rfl) (by kernel_rfl) (by kernel_rfl) qAh h
theorem yL9 (a b:Int)(w:World):Calls Try.prog 114 #[.int .i64 a,.int .i64 b] w fun e w'=>e=.returned (.int .i64 (min a b))∧Below w.heap.size w w':=by
  by_cases h:a<b
  · go_enter Try.func114,Try.ntmps114;go_wp2;go_ret;exact ⟨by rw [Int.min_eq_left qAc];rfl,by go_grown⟩
  · go_enter Try.func114,Try.ntmps114;go_wp2;go_ret;exact ⟨by rw [Int.min_eq_right qAc];rfl,by go_grown⟩
theorem yBf (a b:Int)(w:World):Calls Try.prog 110 #[.int .i64 a,.int .i64 b] w fun e w'=>e=.returned (.int .i64 (max a b))∧Below w.heap.size w w':=by
  by_cases h:b<a
  · go_enter Try.func110,Try.ntmps110;go_wp2;go_ret;exact ⟨by rw [Int.max_eq_left qAc];rfl,by go_grown⟩
  · go_enter Try.func110,Try.ntmps110;go_wp2;go_ret;exact ⟨by rw [xGv qAc];rfl,by go_grown⟩
def vI (x:Int):Value:=.int .i64 x
theorem zBw {w:World}{b o:Nat}{e:TypeId}{arr:Array Value}{L:List Int}{n:Nat}(h:HoleAt w b e arr o n (L.map vI)){i:Nat}{x:Int}(hx:L[i]?=some x):w.cell? ⟨b,o+i,none⟩=some (.int .i64 x) :=
  h.cell (by rw [xAy,hx];rfl)
theorem yHs (m:Value) (N:List Int) (a c:Nat) (b o cp:Nat) (e:TypeId) (arr:Array Value) (w:World) (hl:N.length=120) (ha:a<120) (hc:c<120) (hb:b<w.heap.size) (hH:HoleAt w b e arr o 120 (N.map vI)) :
    Calls Try.prog 102 #[m,.slice (some ⟨b,o,none⟩) 120 cp,.int .i64 (a:Nat),.int .i64 (c:Nat)] w fun e' w'=>e'=.returned (.bool (!decide (gN N (a:Nat)=gN N (c:Nat))))∧HoleAt w' b e arr o 120 ((zBg N (a:Nat) (c:Nat)).map vI)∧Chg [b] w w':=by
  have ea:=xA1 (show a<N.length by omega);have ec:=xA1 (show c<N.length by omega);have ga:N[a]=gN N (a:Nat):=(by unfold gN;rw [xAz,xA3,ea];rfl);have gc:N[c]=gN N (c:Nat):=(by unfold gN;rw [xAz,xA3,ec];rfl);rw [ga] at ea;rw [gc] at ec;have c1:=zBw hH ea;have c2:=zBw hH ec;have hj:zBg N (a:Nat) (c:Nat)=N.map (zGf (gN N (a:Nat)) (gN N (c:Nat))):=rfl;by_cases hxy:gN N (a:Nat)=gN N (c:Nat)
  · rw [zFy hxy];have HH:=Lib.hid hH;have HX:=Lib.hid hxy;rw [← hxy] at c2;clear hH ea ec ga gc hj hxy;generalize gN N (a:Nat)=x at *;go_enter Try.func102,Try.ntmps102;go_wp2_with fail;go_ret;exact ⟨by simp [HX.out],HH.out,Chg.refl _ _⟩
  · rw [hj];have hd:decide (gN N (a:Nat)=gN N (c:Nat))=false:=decide_eq_false hxy;have hq:(gN N (a:Nat)==gN N (c:Nat))=false:=by simp [hxy]
    have HH:=Lib.hid hH;clear hH ea ec ga gc hj hxy;generalize gN N (a:Nat)=x at *;generalize gN N (c:Nat)=x2 at *;go_enter Try.func102,Try.ntmps102;go_wp2_with fail
    go_loopw [11] (fun i wr=>∃ k:Nat,k≤120∧i=.int .i64 k∧HoleAt wr b e arr o 120 ((zLt N x x2 k).map vI)∧Chg [b] w wr) (fun i _=>120-(intOf i).toNat)
    case atStart=>exact ⟨0,xCs _,rfl,by rw [ySi];exact HH.out,Chg.refl _ _⟩
    case round =>
      obtain ⟨k,hk,rfl,ho,hcg⟩:=hrel;by_cases hlt:k<120
      · have hs:=zX2 (x:=x) (y:=x2) (show k<N.length by omega);have hkp:=yDu (x:=x) (y:=x2) (show k<N.length by omega);have hg:=yBg (x:=x) (y:=x2) (show k<N.length by omega)
        have k0:=zBw ho hg;have hf:=ho.froz (o+k);have hbr:b<wr.heap.size:=xCj hb hcg.size;generalize N.getD k 0=v at *;have HO:=Lib.hid ho;have HC:=Lib.hid hcg;clear ho hcg c1 c2 hg;refine yVm (e:=wr) ?_;intro W hW z;subst hW;have d0:∀ z:Ext W,(W.to z).cell? ⟨b,o+k,none⟩=some (.int .i64 v):=fun z=>(yPf z hbr).trans k0;have f0:∀ z:Ext W,(W.to z).frozen? ⟨b,o+k,none⟩=false:=fun z=>(yE6 z hbr).trans hf;have s0:∀ z:Ext W,b<(W.to z).heap.size:=fun z=>xCj hbr (yPe z);clear k0 hf;by_cases hm:v=max x x2
        · have e2:zGf x x2 v=min x x2:=(by unfold zGf;rw [if_pos hm]);rw [e2] at hs;have hmm:(v==max x x2)=true:=(by simp [hm]);have HS:=Lib.hid hs;have HM:=Lib.hid hm;clear hs hkp hm;go_wp2_with fail;refine zN3 (by kernel_rfl) (by kernel_rfl) ?_
          repeat (go_big_quiet_step ((go_at_call 110;exact yBt (yBf x x2 _))))
          refine wpQuiet_nil ?_;rintro _ ⟨y,rfl⟩;go_wp2_with (go_at_call 114;refine (yL9 x x2 _).mono ?_;rintro e' w1 ⟨rfl,hb1⟩;obtain ⟨z2,rfl⟩:=yOs hb1;clear hb1)
          have h1:HoleAt (W.to z2) b e arr o 120 ((zLt N x x2 k).map vI):=HO.out.keep (z2.below.block b hbr);have h2:=h1.set k hlt (.int .i64 (min x x2));rw [show (.int .i64 (min x x2):Value)=vI (min x x2) from rfl,← xGa,HS.out] at h2;have h3:=(HC.out.trans (Chg.of_below z2.below)).set (xCa.2 rfl) (o+k) (vI (min x x2));have H2:=Lib.hid h2;have H3:=Lib.hid h3;clear h1 h2 h3
          go_roundw
          case rel=>exact ⟨k+1,by omega,by go_num,H2.out,H3.out⟩
          case measure=>simp [intOf];omega
        · have e2:zGf x x2 v=v:=(by unfold zGf;rw [if_neg hm]);have hmm:(v==max x x2)=false:=(by simp [hm]);have HK:=Lib.hid (hkp e2);clear hs hkp hm;go_wp2_with fail;refine zN3 (by kernel_rfl) (by kernel_rfl) ?_
          repeat (go_big_quiet_step ((go_at_call 110;exact yBt (yBf x x2 _))))
          refine wpQuiet_nil ?_;rintro _ ⟨y,rfl⟩;go_wp2_with fail;have h1:HoleAt (W.to y) b e arr o 120 ((zLt N x x2 k).map vI):=HO.out.keep (y.below.block b hbr);rw [HK.out] at h1;have H2:=Lib.hid h1;have H3:=Lib.hid (HC.out.trans (Chg.of_below y.below));clear h1
          go_roundw
          case rel=>exact ⟨k+1,by omega,by go_num,H2.out,H3.out⟩
          case measure=>simp [intOf];omega
      · obtain rfl:k=120:=qAc;rw [yIa hl] at ho;have HO:=Lib.hid ho;have HC:=Lib.hid hcg;clear ho hcg c1 c2;go_wp2_with fail;go_ret;exact ⟨by simp [hd],HO.out,HC.out⟩
theorem yOb {I:Nat→Prop}{w:World}:∀ (xs:List Int) {rw:List Value} {F:List Nat},Go.V.Rows I w 1 (xs.map rI) rw F→rw=xs.map vI∧F=[]
  | [],rw,F,h=>by simpa [Go.V.Rows] using h
  | x::xs,rw,F,h=>by simp only [xA6,Go.V.Rows,rI,Cells,T] at h;obtain ⟨us,rw',F1,F2,rfl,rfl,_,⟨u,us',A,B,rfl,rfl,_,⟨rfl,rfl⟩,rfl,rfl⟩,hr⟩:=h;obtain ⟨rfl,rfl⟩:=yOb xs hr;exact ⟨rfl,rfl⟩
theorem yGf {I:Nat→Prop}{w:World}:∀ (xs:List Int),Go.V.Rows I w 1 (xs.map rI) (xs.map vI) []
  | []=>by simp [Go.V.Rows]
  | x::xs=>by simp only [xA6,Go.V.Rows,rI,Cells,T];exact ⟨[vI x],xs.map vI,[],[],rfl,rfl,rfl,⟨vI x,[],[],[],rfl,rfl,rfl,⟨rfl,rfl⟩,rfl,rfl⟩,yGf xs⟩
theorem zVe (N:List Int)(a c:Nat)(hN:OkN N)(ha:a<120)(hc:c<120):ContractL Try.prog NoG 102 1 [.undef,.undef,.v (.int .i64 (a:Nat)),.v (.int .i64 (c:Nat))] (.sl true 1 (N.map rI)) (.v (.bool (!decide (gN N (a:Nat)=gN N (c:Nat))))) (.sl true 1 ((zBg N (a:Nat) (c:Nat)).map rI)):=by
  refine ⟨fun us W=>by kernel_rfl,fun w I us u X hG hI hu0 hV hT hnd hX=>?_⟩;have hl:=hN.len;have hus:∃ m,us=[m,u,.int .i64 (a:Nat),.int .i64 (c:Nat)]:=by simp only [xA8,xBc,Vals,T] at hV;obtain ⟨u1,us',F1,F2,rfl,_,_,u2,us2,F3,F4,rfl,_,_,u3,us3,F5,F6,rfl,_,⟨rfl,_⟩,u4,us4,F7,F8,rfl,_,⟨rfl,_⟩,rfl,_⟩:=hV;simp only [xBb,xBh,xAv] at hu0;exact ⟨u1,by rw [hu0]⟩
  obtain ⟨m,rfl⟩:=hus;simp only [T,xAw] at hT;obtain ⟨ao,cp,rfl,hc1,hc2,hs⟩:=hT;rcases hs with ⟨hno,_⟩ | ⟨_,hs⟩
  · cases hno
  rcases hs with ⟨_,h0,_⟩ | ⟨b,o,cells,e,raw,F',rfl,hh,hsz,hr,rfl,hR⟩
  · omega
  obtain ⟨rfl,rfl⟩:=yOb N hR;have hb:b<w.heap.size:=(xBg.1 hh).1;rw [hl] at hc1 ⊢;have hH:HoleAt w b e cells o 120 (N.map vI):=⟨cells,e,hh,fun _ _=>rfl,by rw [xAw,hl],fun j x hj=>by
    have:=hr j x hj;rwa [cell_of_row w b (o+j) cells _ _ hh] at this⟩
  refine (yHs m N a c b o cp e cells w hl ha hc hb hH).mono ?_;rintro e' w' ⟨rfl,hH',hc'⟩;refine ⟨_,[],[b],I,rfl,⟨hc'.below.os,hc'.below.tape,hc'.below.output,hc'.below.size,fun x hx=>?_⟩,by simp [T],?_,by simp,fun z hz=>?_,fun _ h=>h,fun z hz=>⟨.inl hz,xCj (hI z hz) hc'.size⟩⟩
  · have hx:¬ (w.heap.size≤x∨x∈[b]):=hx;exact hc'.keep x qAc (fun h=>hx (.inr h))
  · obtain ⟨arr,ew,k1,k2,k3,k4⟩:=hH';simp only [T,xAw,zTb,hl];refine ⟨_,_,rfl,hc1,hc2,.inr ⟨trivial,.inr ⟨b,o,arr,ew,(zBg N a c).map vI,[],rfl,k1,?_,fun j x hj=>?_,rfl,yGf _⟩⟩⟩
    · rw [Nat.mul_one] at hsz ⊢;by_cases hcp:cp=120
      · have h119:119<(zBg N (a:Nat) (c:Nat)).length:=(by rw [zTb];omega);have:=k4 119 (vI (zBg N (a:Nat) (c:Nat))[119]) (by rw [xAy,xA1 h119];rfl);have:=(xBg.1 this).1;omega
      · have h1:=k2 (o+cp-1) qAc;rw [xBu (show o+cp-1<cells.size by omega)] at h1;have:=(xBg.1 h1).1;omega
    · rw [cell_of_row w' b (o+j) arr _ _ k1];exact k4 j x hj
  · have hz:z∈[b]:=(by simpa using hz);exact ⟨.inr hz,by have:=hc'.size;have:=(hX z hz).1;omega,(hX z hz).2⟩
set_option maxHeartbeats 4000000 in
theorem zZ2 (d:Design)(st:MS)(i k:Nat)(ho:OkM st)(hp:∀ p,p∈d.Pieces→InP p)(hi:i<d.Pieces.length)(hk:k<d.Pieces.length):ContractX Try.prog NoG 83 0 [.undef,.v (.int .i64 (i:Nat)),.v (.int .i64 (k:Nat))] [.sl false 1 (d.Bottom.map rI),.sl false 1 (d.Left.map rI),.sl false 5 (d.Pieces.map (Piece.td.d false)),.sl true 1 (st.R.map rI),.sl true 1 (st.C.map rI)] (.v (.bool (eqB st (gP d.Pieces (i:Nat)) (gP d.Pieces (k:Nat))))) [.sl false 1 (d.Bottom.map rI),.sl false 1 (d.Left.map rI),.sl false 5 (d.Pieces.map (Piece.td.d false)),.sl true 1 ((eqM st (gP d.Pieces (i:Nat)) (gP d.Pieces (k:Nat))).R.map rI),.sl true 1 ((eqM st (gP d.Pieces (i:Nat)) (gP d.Pieces (k:Nat))).C.map rI)]:=by
  rw [zKq hi,zKq hk];have pp:=hp _ (xB3 hi);have qq:=hp _ (xB3 hk);have ei:=xA1 hi;have ek:=xA1 hk;refine zL3 fun b=>?_;unfold code_spec_l24M_equal;generalize d.Pieces[i]=p at *;generalize d.Pieces[k]=q at *;obtain ⟨R,C,g⟩:=st;obtain ⟨hR,hC⟩:=ho;simp only at hR hC;obtain ⟨pc,pn,pe,ps,pw⟩:=p;obtain ⟨qc,qn,qe,qs,qw⟩:=q;obtain ⟨p1,p2,p3,p4⟩:=pp;obtain ⟨q1,q2,q3,q4⟩:=qq;unfold inG at p1 p2 p3 p4 q1 q2 q3 q4;simp only at p1 p2 p3 p4 q1 q2 q3 q4;obtain ⟨pn,rfl⟩:∃ n:Nat,pn=(n:Int):=⟨pn.toNat,by omega⟩
  obtain ⟨pe,rfl⟩:∃ n:Nat,pe=(n:Int):=⟨pe.toNat,by omega⟩
  obtain ⟨ps,rfl⟩:∃ n:Nat,ps=(n:Int):=⟨ps.toNat,by omega⟩
  obtain ⟨pw,rfl⟩:∃ n:Nat,pw=(n:Int):=⟨pw.toNat,by omega⟩
  obtain ⟨qn,rfl⟩:∃ n:Nat,qn=(n:Int):=⟨qn.toNat,by omega⟩
  obtain ⟨qe,rfl⟩:∃ n:Nat,qe=(n:Int):=⟨qe.toNat,by omega⟩
  obtain ⟨qs,rfl⟩:∃ n:Nat,qs=(n:Int):=⟨qs.toNat,by omega⟩
  obtain ⟨qw,rfl⟩:∃ n:Nat,qw=(n:Int):=⟨qw.toNat,by omega⟩
  have j1:=zVe R pn qn hR qAc qAc;have hR1:=hR.join (a:=(pn:Int)) (b:=(qn:Int)) (by unfold inG;omega) (by unfold inG;omega);have j2:=zVe _ ps qs hR1 qAc qAc;have j3:=zVe C pe qe hC qAc qAc;have hC1:=hC.join (a:=(pe:Int)) (b:=(qe:Int)) (by unfold inG;omega) (by unfold inG;omega);have j4:=zVe _ pw qw hC1 qAc qAc;unfold eqB eqM;simp only;generalize (!decide (gN R (pn:Nat)=gN R (qn:Nat)))=x1 at *;generalize zBg R (pn:Nat) (qn:Nat)=R1 at *;generalize (!decide (gN R1 (ps:Nat)=gN R1 (qs:Nat)))=x2 at *;generalize zBg R1 (ps:Nat) (qs:Nat)=R2 at *;generalize (!decide (gN C (pe:Nat)=gN C (qe:Nat)))=x3 at *;generalize zBg C (pe:Nat) (qe:Nat)=C1 at *;generalize (!decide (gN C1 (pw:Nat)=gN C1 (qw:Nat)))=x4 at *;generalize zBg C1 (pw:Nat) (qw:Nat)=C2 at *;simp -implicitDefEqProofs (disch:=omega) only [go_sem,↓reduceIte ,xAw,xAz,xA7,xA0,xAy,xAx,hi,hk,ei,ek,Piece.td_d];refine zPo (i:=1) (x:=.tmp 33) (q:=[(0,3)]) j1 rfl rfl qAh rfl rfl qAb rfl qAb (by repeat (first | exact zEh | refine zDf ?_ ?_ | exact le_of_eq rfl | exact zDe (zBs rfl) | refine zGx ?_ | exact zGw rfl (TD.rows ..) | refine zEg ?_ | refine zL0 ?_ ?_ | exact zCg)) ⟨rfl,by simp only [D.noImm,zBm,go_sem,TD.nims,TD.nim,zOr,zIt,zIs,zOq]⟩ ?_;simp -implicitDefEqProofs (disch:=omega) only [go_sem,↓reduceIte];refine zPo (i:=1) (x:=.tmp 43) (q:=[(0,3)]) j2 rfl rfl qAh rfl rfl qAb rfl qAb (by repeat (first | exact zEh | refine zDf ?_ ?_ | exact le_of_eq rfl | exact zDe (zBs rfl) | refine zGx ?_ | exact zGw rfl (TD.rows ..) | refine zEg ?_ | refine zL0 ?_ ?_ | exact zCg)) ⟨rfl,by simp only [D.noImm,zBm,go_sem,TD.nims,TD.nim,zOr,zIt,zIs,zOq]⟩ ?_;simp -implicitDefEqProofs (disch:=omega) only [go_sem,↓reduceIte];refine zPo (i:=1) (x:=.tmp 53) (q:=[(0,4)]) j3 rfl rfl qAh rfl rfl qAb rfl qAb (by repeat (first | exact zEh | refine zDf ?_ ?_ | exact le_of_eq rfl | exact zDe (zBs rfl) | refine zGx ?_ | exact zGw rfl (TD.rows ..) | refine zEg ?_ | refine zL0 ?_ ?_ | exact zCg)) ⟨rfl,by simp only [D.noImm,zBm,go_sem,TD.nims,TD.nim,zOr,zIt,zIs,zOq]⟩ ?_;simp -implicitDefEqProofs (disch:=omega) only [go_sem,↓reduceIte];refine zPo (i:=1) (x:=.tmp 63) (q:=[(0,4)]) j4 rfl rfl qAh rfl rfl qAb rfl qAb (by repeat (first | exact zEh | refine zDf ?_ ?_ | exact le_of_eq rfl | exact zDe (zBs rfl) | refine zGx ?_ | exact zGw rfl (TD.rows ..) | refine zEg ?_ | refine zL0 ?_ ?_ | exact zCg)) ⟨rfl,by simp only [D.noImm,zBm,go_sem,TD.nims,TD.nim,zOr,zIt,zIs,zOq]⟩ ?_;simp -implicitDefEqProofs (disch:=omega) only [go_sem,↓reduceIte];cases x1<;>cases x2<;>cases x3<;>cases x4
  all_goals
    simp -implicitDefEqProofs (disch:=omega) only [go_sem,↓reduceIte]
end Go.Proofs.Ytaleehohmpohoaa
